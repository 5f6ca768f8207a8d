import PyProof.Rows.All
import Wide.All
import OpenK.AllK
import Wide.FinOn
import HandS.ForExc
import HandS.ForMost
import HandS.Wide
import HandS.IsInst
import HandS.TupAny
import HandS.Flow
import HandS.Codes
import HandS.Zip
import HandS.TupLe
import KE.GoesMore
import HandS.Property
import HandS.OwnEq
import HandS.Defaults
import HandS.MakeKwOnly
import HandS.More
import HandS.TryMany
import HandS.RaiseMore
import HandS.Deep
import PySem.Challenge.RW_surenear_k31_codes
set_option Elab.async false
set_option linter.all false
set_option maxRecDepth 100000
set_option maxHeartbeats 4000000
set_option exponentiation.threshold 100000
namespace Z
open PySem PySem.Spec L2
open C8 (tCut pss_cut)
/-! Z: one rule a construct, whatever the kinds of its values; and the steps of a reading. -/

/-! ### operators by the kinds of their values -/
def MulOk (i j : Int) : Prop := CMul i j ∨ CMulW i j
def uAdd (K : PySem.W.Frag) : R2 := fun x y H Q => match x, y with
  | .int i, .int j => Q (.int (i + j)) H
  | .str a, .str b => a.length + b.length ≤ sizeLine ∧ Q (.str (a ++ b)) H
  | .ref l, .ref b => rCat (.ref l) (.ref b) H Q ∨ rCatA K (.ref l) (.ref b) H Q
  | _, _ => False
def uSub : R2 := fun x y H Q => match x, y with
  | .int i, .int j => Q (.int (i - j)) H
  | _, _ => False
def uMul : R2 := fun x y H Q => match x, y with
  | .int i, .int j => MulOk i j ∧ Q (.int (i * j)) H
  | _, _ => False
def uDiv : R2 := fun x y H Q => match x, y with
  | .int i, .int j => CDivW i j ∧ Q (.int (i / j)) H
  | _, _ => False
def uMod : R2 := fun x y H Q => match x, y with
  | .int i, .int j => 0 < j ∧ Q (.int (i % j)) H
  | _, _ => False
def uPow : R2 := fun x y H Q => match x, y with
  | .int i, .int j => CPow i j ∧ Q (.int (i ^ j.toNat)) H
  | _, _ => False
def uNeg : V → Hp → VK → Prop := fun x H Q => match x with
  | .int i => Q (.int (-i)) H
  | _ => False
/-! tuples of numbers and texts, one before the other -/
def ltV1 : V → V → Bool
  | .int i, .int j => decide (i < j)
  | .str a, .str b => decide (a.cps.toList < b.cps.toList)
  | _, _ => false
def same1 : V → V → Bool
  | .int _, .int _ => true
  | .str _, .str _ => true
  | _, _ => false
def ltV2 (xs ys : List V) (j : Nat) : Bool := match xs[j]?, ys[j]? with | some u, some v => ltV1 u v | _, _ => false
def rLtP (K : PySem.W.Frag) (a b : Addr) (H : Hp) (Q : VK) : Prop := ∃ xs ys : List V, SqT K H a xs ∧ SqT K H b ys ∧ (∀ (j : Nat) (u v : V), xs[j]? = some u → ys[j]? = some v → same1 u v = true) ∧
  Q (.bl (Ob.lexAt (fun j => decide (xs[j]? = ys[j]?)) (ltV2 xs ys) (decide (xs.length < ys.length)) 0 (min xs.length ys.length))) H
def uLt (K : PySem.W.Frag) : R2 := fun x y H Q => match x, y with
  | .int i, .int j => Q (.bl (decide (i < j))) H
  | .str i, .str j => Q (.bl (decide (i.cps.toList < j.cps.toList))) H
  | .ref a, .ref b => rLtT K (.ref a) (.ref b) H Q ∨ rLtP K a b H Q
  | _, _ => False
def uLe : R2 := fun x y H Q => match x, y with
  | .int i, .int j => Q (.bl (decide (i ≤ j))) H
  | .str i, .str j => Q (.bl (!decide (j.cps.toList < i.cps.toList))) H
  | _, _ => False
def uGt : R2 := fun x y H Q => match x, y with
  | .int i, .int j => Q (.bl (decide (j < i))) H
  | .str i, .str j => Q (.bl (decide (j.cps.toList < i.cps.toList))) H
  | _, _ => False
def uGe : R2 := fun x y H Q => match x, y with
  | .int i, .int j => Q (.bl (decide (j ≤ i))) H
  | .str i, .str j => Q (.bl (!decide (i.cps.toList < j.cps.toList))) H
  | _, _ => False
/-! ### == of lists and tuples, place by place; the same object is equal to itself -/
def sameSq (K : PySem.W.Frag) (H : Hp) (a c : Addr) (xs ys : List V) : Prop := (SqT K H a xs ∧ SqT K H c ys) ∨ (SqL K H a xs ∧ SqL K H c ys)
def allB (xs ys : List V) (e : Nat → Bool) : Bool := (List.range (min xs.length ys.length)).all e && (xs.length == ys.length)
def EqB (K : PySem.W.Frag) (H : Hp) : Nat → V → V → Bool → Prop
  | 0 => fun x y b => (flatV x = true ∧ flatV y = true ∧ b = eqV x y) ∨ (∃ a, x = .ref a ∧ y = .ref a ∧ b = true)
  | n + 1 => fun x y b => EqB K H n x y b ∨ ∃ a c xs ys e, x = .ref a ∧ y = .ref c ∧ sameSq K H a c xs ys ∧ (∀ (i : Nat) (x y : V), xs[i]? = some x → ys[i]? = some y → EqB K H n x y (e i)) ∧ b = allB xs ys e
def rSqB (K : PySem.W.Frag) (a c : Addr) (H : Hp) (Q : Bool → Prop) : Prop := ∃ n xs ys e, n ≤ 16 ∧ sameSq K H a c xs ys ∧ (∀ (i : Nat) (x y : V), xs[i]? = some x → ys[i]? = some y → EqB K H n x y (e i)) ∧ Q (allB xs ys e)
theorem sq_both {X : Cx} {pins : List (Addr × Obj)} {σ : L2.St} {H : Hp} {s : Shared} {A : Around} {a c : Addr} {xs ys : List V} {e : Nat → Bool} (I : Inv X pins σ H s) (hu : A.units < cLine) (h : sameSq X.K H a c xs ys)
    (he : ∀ (i : Nat) (x y : V), xs[i]? = some x → ys[i]? = some y → ∀ u v, RelV x u → RelV y v → SeqAt.EqAt A.in1 s u v (e i)) : SeqAt.RcAt A s (.ref a) (.ref c) (allB xs ys e) ∧ SeqAt.RcNeAt A s (.ref a) (.ref c) (!allB xs ys e) := by
  have items : ∀ {us vs : List Value}, Vals xs us → Vals ys vs → ∀ (j : Nat) (h1 : j < us.toArray.size) (h2 : j < vs.toArray.size), SeqAt.EqAt A.in1 s us.toArray[j] vs.toArray[j] (e j) := by
    intro us vs r1 r2 j h1 h2
    have l1 := r1.length
    have l2 := r2.length
    have k1 : j < us.length := by simpa using h1
    have k2 : j < vs.length := by simpa using h2
    obtain ⟨u, eu, ru⟩ := Vals.get r1 (List.getElem?_eq_getElem (show j < xs.length by omega))
    obtain ⟨v, ev, rv⟩ := Vals.get r2 (List.getElem?_eq_getElem (show j < ys.length by omega))
    have z1 : us.toArray[j] = u := by rw [List.getElem?_eq_getElem k1] at eu; simpa using Option.some.inj eu
    have z2 : vs.toArray[j] = v := by rw [List.getElem?_eq_getElem k2] at ev; simpa using Option.some.inj ev
    rw [z1, z2]
    exact he j _ _ (List.getElem?_eq_getElem (show j < xs.length by omega)) (List.getElem?_eq_getElem (show j < ys.length by omega)) u v ru rv
  rcases h with ⟨ha, hc⟩ | ⟨ha, hc⟩
  · obtain ⟨us, r1, p1, _⟩ := I.tuple ha
    obtain ⟨vs, r2, p2, _⟩ := I.tuple hc
    have z : ((List.range (min us.toArray.size vs.toArray.size)).all e && us.toArray.size == vs.toArray.size) = allB xs ys e := by
      unfold allB
      rw [show us.toArray.size = xs.length by simpa using r1.length.symm, show vs.toArray.size = ys.length by simpa using r2.length.symm]
    refine ⟨?_, ?_⟩
    · rw [← z]; exact SeqAt.RcAt.tuples p1 p2 hu (items r1 r2)
    · rw [← z]; exact SeqAt.RcNeAt.tuples p1 p2 hu (items r1 r2)
  · obtain ⟨us, r1, p1, _⟩ := I.list ha
    obtain ⟨vs, r2, p2, _⟩ := I.list hc
    have n1 : us.toArray.size = xs.length := by simpa using r1.length.symm
    have n2 : vs.toArray.size = ys.length := by simpa using r2.length.symm
    by_cases hl : xs.length = ys.length
    · have z : (List.range us.toArray.size).all e = allB xs ys e := by
        unfold allB
        rw [n1, hl, Nat.min_self, beq_self_eq_true, Bool.and_true]
      refine ⟨?_, ?_⟩
      · rw [← z]; exact SeqAt.RcAt.lists p1.isList p2.isList (by omega) hu (items r1 r2)
      · rw [← z]; exact SeqAt.RcNeAt.lists p1.isList p2.isList (by omega) hu (items r1 r2)
    · have z : allB xs ys e = false := by unfold allB; simp [hl]
      have ne : (us.toArray.size != vs.toArray.size) = true := by rw [n1, n2]; simpa using hl
      rw [z]
      exact ⟨SeqAt.RcAt.lists_lengths p1.isList p2.isList ne hu, SeqAt.RcNeAt.lists_lengths p1.isList p2.isList ne hu⟩
theorem EqB.det {X : Cx} {pins : List (Addr × Obj)} {σ : L2.St} {H : Hp} {s : Shared} (I : Inv X pins σ H s) : ∀ (n : Nat) (x : V) (b : Bool), EqB X.K H n x x b → b = true
  | 0, x, b, h => by
    rcases h with ⟨fx, _, rfl⟩ | ⟨a, _, _, rfl⟩
    · cases x <;> first | (cases fx; done) | (simp [eqV]; done)
    · rfl
  | n + 1, x, b, h => by
    rcases h with h | ⟨a, c, xs, ys, e, rfl, e2, hs, he, rfl⟩
    · exact EqB.det I n x b h
    · cases e2
      have z : xs = ys := by
        rcases hs with ⟨h1, h2⟩ | ⟨h1, h2⟩
        · exact I.tuple_inj h1 h2
        · exact I.list_inj h1 h2
      subst z
      unfold allB
      rw [Nat.min_self, beq_self_eq_true, Bool.and_true, List.all_eq_true]
      intro i hi
      have hi := List.mem_range.mp hi
      exact EqB.det I n _ _ (he i _ _ (List.getElem?_eq_getElem hi) (List.getElem?_eq_getElem hi))
theorem EqB.at {X : Cx} {pins : List (Addr × Obj)} {σ : L2.St} {H : Hp} {s : Shared} (I : Inv X pins σ H s) : ∀ (n : Nat) (x y : V) (b : Bool) (u v : Value) (A : Around), A.units + n < cLine → EqB X.K H n x y b → RelV x u → RelV y v → SeqAt.EqAt A s u v b
  | 0, x, y, b, u, v, A, _, h, rx, ry => by
    rcases h with ⟨fx, fy, rfl⟩ | ⟨a, rfl, rfl, rfl⟩
    · exact eqAt_V rx ry fx fy
    · cases rx; cases ry; exact SeqAt.EqAt.same _
  | n + 1, x, y, b, u, v, A, hu, h, rx, ry => by
    rcases h with h | ⟨a, c, xs, ys, e, rfl, rfl, hs, he, hb⟩
    · exact EqB.at I n x y b u v A (by omega) h rx ry
    · cases rx; cases ry
      by_cases q : a = c
      · subst q
        rw [EqB.det I (n + 1) (.ref a) b (.inr ⟨a, a, xs, ys, e, rfl, rfl, hs, he, hb⟩)]; exact SeqAt.EqAt.same _
      · rw [hb]
        refine SeqAt.EqAt.of_refs q (sq_both I (by omega) hs fun i x y e1 e2 u v r1 r2 => EqB.at I n x y (e i) u v A.in1 ?_ (he i x y e1 e2) r1 r2).1
        show A.units + 1 + n < cLine
        omega
theorem op_sqB {X : Cx} (hu : X.A.units + 64 < cLine) {pins : List (Addr × Obj)} {σ : L2.St} {H : Hp} {s : Shared} {a c : Addr} {Q : VK} (I : Inv X pins σ H s) :
    (rSqB X.K a c H (fun b => Q (.bl b) H) → wpAny (model X.prog X.w) X.A (compareOp .Eq (.ref a) (.ref c)) (EP X pins σ Q) X.xe s) ∧ (rSqB X.K a c H (fun b => Q (.bl (!b)) H) → wpAny (model X.prog X.w) X.A (compareOp .NotEq (.ref a) (.ref c)) (EP X pins σ Q) X.xe s) := by
  have key : ∀ {n : Nat} {xs ys : List V} {e : Nat → Bool}, n ≤ 16 → sameSq X.K H a c xs ys → (∀ (i : Nat) (x y : V), xs[i]? = some x → ys[i]? = some y → EqB X.K H n x y (e i)) → _ := fun {n xs ys e} hn hs he => sq_both (A := X.A) I (by omega) hs fun i x y e1 e2 u v r1 r2 => EqB.at I n x y (e i) u v X.A.in1 (by show X.A.units + 1 + n < cLine; omega) (he i x y e1 e2) r1 r2
  refine ⟨fun ⟨n, xs, ys, e, hn, hs, he, q⟩ => ?_, fun ⟨n, xs, ys, e, hn, hs, he, q⟩ => ?_⟩
  · exact (key hn hs he).1 X.prog X.w X.xe _ ⟨.bl _, H, I, rfl, q⟩
  · exact (key hn hs he).2 X.prog X.w X.xe _ ⟨.bl _, H, I, rfl, q⟩
def uEq (K : PySem.W.Frag) : R2 := fun x y H Q => match x, y with
  | .int i, .int j => Q (.bl (decide (i = j))) H
  | .str i, .str j => Q (.bl (decide (i = j))) H
  | .bl i, .bl j => Q (.bl (decide (i = j))) H
  | .non, .non => Q (.bl true) H
  | .ref a, .ref b => rEqD K (.ref a) (.ref b) H Q ∨ rSqB K a b H (fun k => Q (.bl k) H)
  | x, y => (scal x y = true ∧ Q (.bl (decide (x = y))) H) ∨ rEqD K x y H Q
def uNe (K : PySem.W.Frag) : R2 := fun x y H Q => match x, y with
  | .int i, .int j => Q (.bl (!decide (i = j))) H
  | .str i, .str j => Q (.bl (!decide (i = j))) H
  | .bl i, .bl j => Q (.bl (!decide (i = j))) H
  | .non, .non => Q (.bl false) H
  | .ref a, .ref b => rNeD K (.ref a) (.ref b) H Q ∨ rSqB K a b H (fun k => Q (.bl (!k)) H)
  | x, y => (scal x y = true ∧ Q (.bl (!decide (x = y))) H) ∨ rNeD K x y H Q
def uIs : R2 := fun x y H Q => match x, y with
  | x, .non => Q (.bl (decide (x = .non))) H
  | .bl a, .bl b => Q (.bl (decide (a = b))) H
  | _, _ => False
def uIsNot : R2 := fun x y H Q => match x, y with
  | x, .non => Q (.bl (!decide (x = .non))) H
  | .bl a, .bl b => Q (.bl (!decide (a = b))) H
  | _, _ => False
def uIn (K : PySem.W.Frag) : R2 := fun x y H Q => match x, y with
  | .str i, .str j => Q (.bl (!(Builtin.Str.occurrences j i 0 j.length 1).isEmpty)) H
  | x, y => rIn K false x y H Q
def uNotIn (K : PySem.W.Frag) : R2 := fun x y H Q => match x, y with
  | .str i, .str j => Q (.bl (!(!(Builtin.Str.occurrences j i 0 j.length 1).isEmpty))) H
  | x, y => rIn K true x y H Q

section
variable {X : Cx}
theorem op_uAdd : OpR X (binaryOp .Add) (uAdd X.K) := by
  intro pins s σ H x y v u Q I rx ry h
  cases x <;> cases y <;> first | exact h.elim | skip
  · exact op_add pins s σ H _ _ _ _ Q I rx ry ⟨_, _, rfl, rfl, h⟩
  · exact op_add_str pins s σ H _ _ _ _ Q I rx ry ⟨_, _, rfl, rfl, h.1, h.2⟩
  · rcases h with h | h
    · exact op_cat pins s σ H _ _ _ _ Q I rx ry h
    · exact op_catA pins s σ H _ _ _ _ Q I rx ry h
theorem op_uSub : OpR X (binaryOp .Sub) uSub := by
  intro pins s σ H x y v u Q I rx ry h
  cases x <;> cases y <;> first | exact h.elim | skip
  exact op_sub pins s σ H _ _ _ _ Q I rx ry ⟨_, _, rfl, rfl, h⟩
theorem op_uMul : OpR X (binaryOp .Mult) uMul := by
  intro pins s σ H x y v u Q I rx ry h
  cases x <;> cases y <;> first | exact h.elim | skip
  rcases h with ⟨h | h, q⟩
  · exact op_mul pins s σ H _ _ _ _ Q I rx ry ⟨_, _, rfl, rfl, h, q⟩
  · exact op_mulW pins s σ H _ _ _ _ Q I rx ry ⟨_, _, rfl, rfl, h, q⟩
theorem op_uDiv : OpR X (binaryOp .FloorDiv) uDiv := by
  intro pins s σ H x y v u Q I rx ry h
  cases x <;> cases y <;> first | exact h.elim | skip
  exact op_fdivW pins s σ H _ _ _ _ Q I rx ry ⟨_, _, rfl, rfl, h.1, h.2⟩
theorem op_uMod : OpR X (binaryOp .Mod) uMod := by
  intro pins s σ H x y v u Q I rx ry h
  cases x <;> cases y <;> first | exact h.elim | skip
  exact op_mod pins s σ H _ _ _ _ Q I rx ry ⟨_, _, rfl, rfl, h.1, h.2⟩
theorem op_uPow : OpR X (binaryOp .Pow) uPow := by
  intro pins s σ H x y v u Q I rx ry h
  cases x <;> cases y <;> first | exact h.elim | skip
  exact op_pow pins s σ H _ _ _ _ Q I rx ry ⟨_, _, rfl, rfl, h.1, h.2⟩
theorem un_uNeg : UnR X (unaryOp .USub) uNeg := by
  intro pins s σ H x v Q I rx h
  cases x <;> first | exact h.elim | skip
  exact un_neg pins s σ H _ _ Q I rx ⟨_, rfl, h⟩
theorem op_ltP (hu : X.A.units < cLine) {pins : List (Addr × Obj)} {s : Shared} {σ : L2.St} {H : Hp} {a b : Addr} {Q : VK} (I : Inv X pins σ H s) (h : rLtP X.K a b H Q) :
    wpAny (model X.prog X.w) X.A (compareOp .Lt (.ref a) (.ref b)) (EP X pins σ Q) X.xe s := by
  obtain ⟨xs, ys, ha, hb, hk, q⟩ := h
  obtain ⟨us, r1, p1, _⟩ := I.tuple ha
  obtain ⟨vs, r2, p2, _⟩ := I.tuple hb
  have l1 := r1.length
  have l2 := r2.length
  have both : ∀ (j : Nat) (h1 : j < us.toArray.size) (h2 : j < vs.toArray.size), ∃ x y : V, xs[j]? = some x ∧ ys[j]? = some y ∧ RelV x us.toArray[j] ∧ RelV y vs.toArray[j] := by
    intro j h1 h2
    have k1 : j < us.length := by simpa using h1
    have k2 : j < vs.length := by simpa using h2
    obtain ⟨u, eu, ru⟩ := Vals.get r1 (List.getElem?_eq_getElem (show j < xs.length by omega))
    obtain ⟨v, ev, rv⟩ := Vals.get r2 (List.getElem?_eq_getElem (show j < ys.length by omega))
    refine ⟨_, _, List.getElem?_eq_getElem (show j < xs.length by omega), List.getElem?_eq_getElem (show j < ys.length by omega), ?_, ?_⟩
    · rw [List.getElem?_eq_getElem k1] at eu
      have : us.toArray[j] = u := by simpa using Option.some.inj eu
      rw [this]; exact ru
    · rw [List.getElem?_eq_getElem k2] at ev
      have : vs.toArray[j] = v := by simpa using Option.some.inj ev
      rw [this]; exact rv
  have R := Ob.RcOp.tuples_lt (A := X.A) (s := s) (e := fun j => decide (xs[j]? = ys[j]?)) (r := ltV2 xs ys) p1 p2 hu (fun j h1 h2 => by
    obtain ⟨x, y, ex, ey, rx, ry⟩ := both j h1 h2
    have k := hk j x y ex ey
    rw [ex, ey]
    cases x <;> cases y <;> first | exact Bool.noConfusion (show false = true from k) | skip
    · rename_i i i'
      obtain ⟨t, et⟩ := rx
      obtain ⟨t', et'⟩ := ry
      rw [et, et', show decide (some (V.int i) = some (V.int i')) = (i == i') by rw [Bool.eq_iff_iff]; simp]
      exact SeqAt.EqAt.int_int _ _ _ _
    · rename_i i i'
      obtain ⟨t, et⟩ := rx
      obtain ⟨t', et'⟩ := ry
      rw [et, et', show decide (some (V.str i) = some (V.str i')) = (i == i') by rw [Bool.eq_iff_iff]; simp]
      exact SeqAt.EqAt.str_str _ _ _ _) (fun j h1 h2 _ => by
    obtain ⟨x, y, ex, ey, rx, ry⟩ := both j h1 h2
    have k := hk j x y ex ey
    rw [show ltV2 xs ys j = ltV1 x y by unfold ltV2; rw [ex, ey]]
    cases x <;> cases y <;> first | exact Bool.noConfusion (show false = true from k) | skip
    · obtain ⟨t, et⟩ := rx
      obtain ⟨t', et'⟩ := ry
      rw [et, et']
      exact Ob.RcOp.lt_int _ _ _ _
    · obtain ⟨t, et⟩ := rx
      obtain ⟨t', et'⟩ := ry
      rw [et, et']
      exact fun _ _ _ _ h => PyProof.Rows.lt_str (by simpa [ltV1] using h))
  rw [show us.toArray.size = xs.length by simpa using l1.symm, show vs.toArray.size = ys.length by simpa using l2.symm] at R
  exact R X.prog X.w X.xe (EP X pins σ Q) ⟨.bl _, H, I, rfl, q⟩
theorem op_uLt (hu : X.A.units + 64 < cLine) : OpR X (compareOp .Lt) (uLt X.K) := by
  intro pins s σ H x y v u Q I rx ry h
  cases x <;> cases y <;> first | exact h.elim | skip
  · exact op_lt pins s σ H _ _ _ _ Q I rx ry ⟨_, _, rfl, rfl, h⟩
  · exact op_lt_str pins s σ H _ _ _ _ Q I rx ry ⟨_, _, rfl, rfl, h⟩
  · rcases h with h | h
    · exact op_ltT (by omega) pins s σ H _ _ _ _ Q I rx ry h
    · cases rx; cases ry; exact op_ltP (by omega) I h
theorem op_uLe : OpR X (compareOp .LtE) uLe := by
  intro pins s σ H x y v u Q I rx ry h
  cases x <;> cases y <;> first | exact h.elim | skip
  · exact op_le pins s σ H _ _ _ _ Q I rx ry ⟨_, _, rfl, rfl, h⟩
  · exact op_le_str pins s σ H _ _ _ _ Q I rx ry ⟨_, _, rfl, rfl, h⟩
theorem op_uGt : OpR X (compareOp .Gt) uGt := by
  intro pins s σ H x y v u Q I rx ry h
  cases x <;> cases y <;> first | exact h.elim | skip
  · exact op_gt pins s σ H _ _ _ _ Q I rx ry ⟨_, _, rfl, rfl, h⟩
  · exact op_gt_str pins s σ H _ _ _ _ Q I rx ry ⟨_, _, rfl, rfl, h⟩
theorem op_uGe : OpR X (compareOp .GtE) uGe := by
  intro pins s σ H x y v u Q I rx ry h
  cases x <;> cases y <;> first | exact h.elim | skip
  · exact op_ge pins s σ H _ _ _ _ Q I rx ry ⟨_, _, rfl, rfl, h⟩
  · exact op_ge_str pins s σ H _ _ _ _ Q I rx ry ⟨_, _, rfl, rfl, h⟩
theorem V_int_dec {i j : Int} : decide (V.int i = V.int j) = decide (i = j) := by
  rw [Bool.eq_iff_iff]; simp
theorem V_str_dec {i j : Str} : decide (V.str i = V.str j) = decide (i = j) := by
  rw [Bool.eq_iff_iff]; simp
theorem V_bl_dec {i j : Bool} : decide (V.bl i = V.bl j) = decide (i = j) := by
  rw [Bool.eq_iff_iff]; simp
theorem op_uEq (hu : X.A.units + 64 < cLine) : OpR X (compareOp .Eq) (uEq X.K) := by
  intro pins s σ H x y v u Q I rx ry h
  have gen : (scal x y = true ∧ Q (.bl (decide (x = y))) H) ∨ rEqD X.K x y H Q → _ := fun z => (op_eq.or (op_eqD hu)) pins s σ H x y v u Q I rx ry z
  cases x <;> cases y <;> first | exact gen h | skip
  · exact gen (.inl ⟨rfl, h⟩)
  · exact gen (.inl ⟨rfl, by rw [V_bl_dec]; exact h⟩)
  · exact gen (.inl ⟨rfl, by rw [V_int_dec]; exact h⟩)
  · exact gen (.inl ⟨rfl, by rw [V_str_dec]; exact h⟩)
  · rcases h with h | h
    · exact gen (.inr h)
    · cases rx; cases ry; exact (op_sqB hu I).1 h
theorem op_uNe (hu : X.A.units + 64 < cLine) : OpR X (compareOp .NotEq) (uNe X.K) := by
  intro pins s σ H x y v u Q I rx ry h
  have gen : (scal x y = true ∧ Q (.bl (!decide (x = y))) H) ∨ rNeD X.K x y H Q → _ := fun z => (op_ne.or (op_neD hu)) pins s σ H x y v u Q I rx ry z
  cases x <;> cases y <;> first | exact gen h | skip
  · exact gen (.inl ⟨rfl, h⟩)
  · exact gen (.inl ⟨rfl, by rw [V_bl_dec]; exact h⟩)
  · exact gen (.inl ⟨rfl, by rw [V_int_dec]; exact h⟩)
  · exact gen (.inl ⟨rfl, by rw [V_str_dec]; exact h⟩)
  · rcases h with h | h
    · exact gen (.inr h)
    · cases rx; cases ry; exact (op_sqB hu I).2 h
theorem op_uIs : OpR X (compareOp .Is) uIs := by
  intro pins s σ H x y v u Q I rx ry h
  cases y <;> first | (cases x <;> exact h.elim) | skip
  · exact op_isN pins s σ H _ _ _ _ Q I rx ry ⟨rfl, by cases x <;> exact h⟩
  · cases x <;> first | exact h.elim | skip
    exact op_is_bl pins s σ H _ _ _ _ Q I rx ry ⟨_, _, rfl, rfl, h⟩
theorem op_uIsNot : OpR X (compareOp .IsNot) uIsNot := by
  intro pins s σ H x y v u Q I rx ry h
  cases y <;> first | (cases x <;> exact h.elim) | skip
  · exact op_notN pins s σ H _ _ _ _ Q I rx ry ⟨rfl, by cases x <;> exact h⟩
  · cases x <;> first | exact h.elim | skip
    exact op_isnot_bl pins s σ H _ _ _ _ Q I rx ry ⟨_, _, rfl, rfl, h⟩
theorem op_uIn : OpR X (compareOp .In) (uIn X.K) := by
  intro pins s σ H x y v u Q I rx ry h
  cases x <;> cases y <;> first | exact op_in_str pins s σ H _ _ _ _ Q I rx ry ⟨_, _, rfl, rfl, h⟩ | exact op_in_seq pins s σ H _ _ _ _ Q I rx ry h
theorem op_uNotIn : OpR X (compareOp .NotIn) (uNotIn X.K) := by
  intro pins s σ H x y v u Q I rx ry h
  cases x <;> cases y <;> first | exact op_notin_str pins s σ H _ _ _ _ Q I rx ry ⟨_, _, rfl, rfl, h⟩ | exact op_notIn_seq pins s σ H _ _ _ _ Q I rx ry h
end

/-! ### items, lengths, kinds -/
def uIx (K : PySem.W.Frag) : R2 := fun x y H Q => match x, y with
  | .ref p, .int i => ∃ xs v, (SqL K H p xs ∨ SqT K H p xs) ∧ atI xs i = some v ∧ Q v H
  | .str z, .int i => ∃ c, z.length ≤ sizeLine ∧ atI z.cps.toList i = some c ∧ Q (.str ⟨#[c]⟩) H
  | _, _ => False
def uLen (K : PySem.W.Frag) : List V → Hp → VK → Prop := fun vs H Q => match vs with
  | [.ref p] => ∃ xs, (SqL K H p xs ∨ SqT K H p xs) ∧ Q (.int xs.length) H
  | [.str z] => z.length ≤ sizeLine ∧ Q (.int z.length) H
  | _ => False
def uInt : List V → Hp → VK → Prop := fun vs H Q => match vs with
  | [.int i] => Q (.int i) H
  | [.bl b] => Q (.int (if b then 1 else 0)) H
  | _ => False
def uMax : List V → Hp → VK → Prop := fun vs H Q => match vs with
  | [.int i, .int j] => Q (.int (if j > i then j else i)) H
  | _ => False
def uMin : List V → Hp → VK → Prop := fun vs H Q => match vs with
  | [.int i, .int j] => Q (.int (if j < i then j else i)) H
  | _ => False
def uAbs : List V → Hp → VK → Prop := fun vs H Q => match vs with
  | [.int i] => Q (.int (if i < 0 then -i else i)) H
  | _ => False
def uList (K : PySem.W.Frag) : List V → Hp → VK → Prop := fun vs H Q => match vs with
  | [.ref p] => ∃ xs, (SqL K H p xs ∨ SqT K H p xs) ∧ ∀ l, H l = none → Q (.ref l) (upd H l (.lst xs))
  | _ => False
def uTuple (K : PySem.W.Frag) : List V → Hp → VK → Prop := fun vs H Q => match vs with
  | [.ref p] => ∃ xs, (SqL K H p xs ∧ ∀ l, H l = none → Q (.ref l) (upd H l (.tup xs))) ∨ (SqT K H p xs ∧ Q (.ref p) H)
  | _ => False
/-- isinstance with one class -/
def uIsi (K : PySem.W.Frag) : List V → Hp → VK → Prop := fun vs H Q => match vs with
  | [x, c] => ∃ (t u : Value) (b : Bool), ClsV c u ∧ TyX K H x t ∧ PySem.W.kitOne K t u = some b ∧ Q (.bl b) H
  | _ => False
def tTru (K : PySem.W.Frag) (ta : TE) : TT := fun σ H Q => ta σ H fun x H' => ∃ k, TruV K x H' k ∧ Q k H'
def tCal (sp : Sp) (t : TA) : TE := fun σ H Q => t σ H fun vs H1 => sp vs H1 Q E0
section
variable {X : Cx}
theorem ix_uIx : IxR X (uIx X.K) := by
  intro ea eb pins s σ H x y v u Q I rx ry h hp
  cases x <;> cases y <;> first | exact h.elim | skip
  · obtain ⟨c, hz, ha, q⟩ := h
    exact ix_str ea eb pins s σ H _ _ _ _ Q I rx ry ⟨_, _, c, rfl, rfl, hz, ha, q⟩ hp
  · obtain ⟨xs, w, hl, ha, q⟩ := h
    rcases hl with hl | hl
    · exact ix_list ea eb pins s σ H _ _ _ _ Q I rx ry ⟨_, xs, _, w, rfl, rfl, hl, ha, q⟩ hp
    · exact ix_tup ea eb pins s σ H _ _ _ _ Q I rx ry ⟨_, xs, _, w, rfl, rfl, hl, ha, q⟩ hp
theorem call_uLen : CallR X (.builtin "len") (uLen X.K) := by
  intro pins s σ H vs us Q I r h
  rcases vs with _ | ⟨x, _ | ⟨y, t⟩⟩
  · exact h.elim
  · cases x <;> first | exact h.elim | skip
    · exact call_len pins s σ H _ _ Q I r ⟨_, _, rfl, ⟨h.1, rfl⟩, h.2⟩
    · obtain ⟨xs, hl, q⟩ := h
      refine call_len pins s σ H _ _ Q I r ⟨_, xs.length, rfl, ?_, q⟩
      rcases hl with hl | hl
      · exact .inl ⟨_, hl, rfl⟩
      · exact .inr ⟨_, hl, rfl⟩
  · cases x <;> exact h.elim
theorem call_uInt : CallR X (.type "int") uInt := by
  intro pins s σ H vs us Q I r h
  rcases vs with _ | ⟨x, _ | ⟨y, t⟩⟩
  · exact h.elim
  · cases x <;> first | exact h.elim | skip
    · exact call_int1 pins s σ H _ _ Q I r (.inr ⟨_, rfl, h⟩)
    · exact call_int1 pins s σ H _ _ Q I r (.inl ⟨_, rfl, h⟩)
  · cases x <;> exact h.elim
theorem call_uAbs : CallR X (.builtin "abs") uAbs := by
  intro pins s σ H vs us Q I r h
  rcases vs with _ | ⟨x, _ | ⟨y, t⟩⟩
  · exact h.elim
  · cases x <;> first | exact h.elim | skip
    exact call_abs pins s σ H _ _ Q I r ⟨_, rfl, h⟩
  · cases x <;> exact h.elim
theorem call_uMax (hc : X.calm = true) : CallR X (.builtin "max") uMax := by
  intro pins s σ H vs us Q I r h
  rcases vs with _ | ⟨x, _ | ⟨y, _ | ⟨z, t⟩⟩⟩
  · exact h.elim
  · cases x <;> exact h.elim
  · cases x <;> cases y <;> first | exact h.elim | skip
    exact call_max2 hc pins s σ H _ _ Q I r ⟨_, _, rfl, h⟩
  · cases x <;> cases y <;> exact h.elim
theorem call_uMin (hc : X.calm = true) : CallR X (.builtin "min") uMin := by
  intro pins s σ H vs us Q I r h
  rcases vs with _ | ⟨x, _ | ⟨y, _ | ⟨z, t⟩⟩⟩
  · exact h.elim
  · cases x <;> exact h.elim
  · cases x <;> cases y <;> first | exact h.elim | skip
    exact call_min2 hc pins s σ H _ _ Q I r ⟨_, _, rfl, h⟩
  · cases x <;> cases y <;> exact h.elim
theorem call_uList : CallR X (.type "list") (uList X.K) := by
  intro pins s σ H vs us Q I r h
  rcases vs with _ | ⟨x, _ | ⟨y, t⟩⟩
  · exact h.elim
  · cases x <;> first | exact h.elim | skip
    obtain ⟨xs, hl, q⟩ := h
    exact call_list_of pins s σ H _ _ Q I r ⟨_, xs, rfl, hl, q⟩
  · cases x <;> exact h.elim
theorem call_uTuple : CallR X (.type "tuple") (uTuple X.K) := by
  intro pins s σ H vs us Q I r h
  rcases vs with _ | ⟨x, _ | ⟨y, t⟩⟩
  · exact h.elim
  · cases x <;> first | exact h.elim | skip
    obtain ⟨xs, hl⟩ := h
    exact call_tuple_of pins s σ H _ _ Q I r ⟨_, xs, rfl, hl⟩
  · cases x <;> exact h.elim
theorem call_uIsi : CallR X (.builtin "isinstance") (uIsi X.K) := by
  intro pins s σ H vs us Q I r h
  rcases vs with _ | ⟨x, _ | ⟨y, _ | ⟨z, t⟩⟩⟩
  · exact h.elim
  · exact h.elim
  · obtain ⟨t, u, b, k, ty, e, q⟩ := h
    exact call_isi pins s σ H _ _ Q I r ⟨_, _, t, u, b, rfl, k, ty, e, q⟩
  · exact h.elim
theorem pt_u {a : Expr} {ta : TE} (ha : PE X a ta) (he : ∀ whole, isTrue a X.env whole = (do let v ← whole; standAt a.pos; holding [v] (truthy v)) := by intro _; rfl) : PT X a (tTru X.K ta) := pt_truth ha he
end

/-! ### a def of the text, as those who call it know it -/
structure Dfn (P : Program) (w : World) (K : PySem.W.Frag) (mg : Str → Option Value) (base : Heap) (k : Nat) (x : Str) (ps : List Str) (sp : Sp) : Prop where
  ex : ∃ (f : Addr) (fd : FuncData), mg x = some (.ref f) ∧ PySem.W.keepIn K (.ref f) = true ∧ Binds K fd ps [] ∧ FnOk P w K mg base CX0 k f fd ps sp
theorem nil_sp (sp : Sp) (t : TA) : tCall sp [] E0 t = tCal sp t := by
  funext σ H Q
  simp only [tCall, tCal, List.append_nil]
section
variable {X : Cx} {k : Nat} {x : Str} {ps : List Str} {sp : Sp} {p pos : Pos} {e : Expr} {es : List Expr} {t : TA}
theorem z_call (D : Dfn X.prog X.w X.K X.mg X.base k x ps sp) (hr : Room k X.A) (hg : Gl X x) (ha : PA X (e :: es) t) (hdb : (x == ("__debug__" : Str)) = false := by decide)
    (he : starEach (e :: es) X.env = (false, eval e X.env) :: starEach es X.env := by rfl) (hpl : (backTo pos (starEach es X.env)).any (·.1) = false := by rfl) : PE X (.Call (.Name x p) (e :: es) [] pos) (tCal sp t) := by
  obtain ⟨f, fd, hm, hk, hb, F⟩ := D.ex
  rw [← nil_sp]
  exact pe_call F hr hg hm hk hb .nil pass0 ha hdb he hpl
theorem z_call0 (D : Dfn X.prog X.w X.K X.mg X.base k x ps sp) (hr : Room k X.A) (hg : Gl X x) (hdb : (x == ("__debug__" : Str)) = false := by decide) : PE X (.Call (.Name x p) [] [] pos) (tCal sp tNil) := by
  obtain ⟨f, fd, hm, hk, hb, F⟩ := D.ex
  rw [← nil_sp]
  exact pe_call0 F hr hg hm hk hb .nil pass0 hdb
/-- a list or a tuple that is walked -/
def iSeq (K : PySem.W.Frag) (tl : TE) : TI := fun σ H R => iList K tl σ H R ∨ iTup K tl σ H R
theorem pi_seq {tg l : Expr} {tl : TE} (hl : PE X l tl) : PI X tg l (iSeq X.K tl) := by
  have h1 := pi_list (tg := tg) hl
  have h2 := pi_tup (tg := tg) hl
  refine ⟨fun pins s σ H R I h => ?_⟩
  rcases h with h | h
  · exact h1.run pins s σ H R I h
  · exact h2.run pins s σ H R I h
end

/-! ### the steps of a reading -/
def zNewL (xs : List V) (H : Hp) (Q : VK) : Prop := xs.length ≤ sizeLine ∧ ∀ p, H p = none → Q (.ref p) (upd H p (.lst xs))
def zNewT (xs : List V) (H : Hp) (Q : VK) : Prop := xs.length ≤ sizeLine ∧ ∀ p, H p = none → Q (.ref p) (upd H p (.tup xs))
section
variable {K : PySem.W.Frag} {σ : St} {H : Hp} {i : Nat} {v : V} {Q : VK} {QA : List V → Hp → Prop} {QB : Bool → Hp → Prop} {r : R2} {r1 : V → Hp → VK → Prop} {rl : List V → Hp → VK → Prop} {ta tb te : TE} {tr t : TA} {c u : TT} {sp : Sp} {xs : List V} {a b : Int} {x y : Str} {p q : Addr} {bb : Bool} {D : Ends} {t1 t2 : TS}
theorem z_var (h : σ[i]? = some (some v)) (k : Q v H) : tVar i σ H Q := ⟨v, h, k⟩
theorem z_c (k : Q v H) : tC v σ H Q := k
theorem z_op (k : ta σ H fun x H1 => tb σ H1 fun y H2 => r x y H2 Q) : tOp r ta tb σ H Q := k
theorem z_un (k : ta σ H fun x H1 => r1 x H1 Q) : tUn r1 ta σ H Q := k
theorem z_cb (k : t σ H fun vs H1 => rl vs H1 Q) : tCB rl t σ H Q := k
theorem z_cal (k : t σ H fun vs H1 => sp vs H1 Q E0) : tCal sp t σ H Q := k
theorem z_nil (k : QA [] H) : tNil σ H QA := k
theorem z_cons (k : ta σ H fun x H1 => tr σ H1 fun xs H2 => QA (x :: xs) H2) : tCons ta tr σ H QA := k
theorem z_lst (k : t σ H fun xs H1 => zNewL xs H1 Q) : tLst t σ H Q := k
theorem z_tup (k : t σ H fun xs H1 => zNewT xs H1 Q) : tTup t σ H Q := k
theorem z_newL (h : xs.length ≤ 100000) (k : ∀ p, H p = none → Q (.ref p) (upd H p (.lst xs))) : zNewL xs H Q := ⟨Nat.le_trans h (by decide), k⟩
theorem z_newT (h : xs.length ≤ 100000) (k : ∀ p, H p = none → Q (.ref p) (upd H p (.tup xs))) : zNewT xs H Q := ⟨Nat.le_trans h (by decide), k⟩
theorem z_test (k : te σ H fun x H' => ∃ k, x = .bl k ∧ QB k H') : tTest te σ H QB := k
theorem z_bl (k : QB bb H) : ∃ k, V.bl bb = .bl k ∧ QB k H := ⟨bb, rfl, k⟩
theorem z_tru (k : te σ H fun x H' => ∃ k, TruV K x H' k ∧ QB k H') : tTru K te σ H QB := k
theorem z_trub {P : Bool → Prop} (k : P bb) : ∃ k, TruV K (.bl bb) H k ∧ P k := ⟨bb, rfl, k⟩
theorem z_trui {P : Bool → Prop} (k : P (a != 0)) : ∃ k, TruV K (.int a) H k ∧ P k := ⟨_, rfl, k⟩
theorem z_and (k : c σ H fun b H1 => if b = true then u σ H1 QB else QB false H1) : tAnd c u σ H QB := k
theorem z_or (k : c σ H fun b H1 => if b = true then QB true H1 else u σ H1 QB) : tOr c u σ H QB := k
theorem z_not (k : c σ H fun b H1 => QB (!b) H1) : tNot c σ H QB := k
theorem z_andV (k : ta σ H fun x H1 => ∃ c, x = .bl c ∧ if c = true then tb σ H1 Q else Q (.bl false) H1) : tAndV ta tb σ H Q := k
theorem z_orV (k : ta σ H fun x H1 => ∃ c, x = .bl c ∧ if c = true then Q (.bl true) H1 else tb σ H1 Q) : tOrV ta tb σ H Q := k
theorem z_notV (k : ta σ H fun x H1 => ∃ c, x = .bl c ∧ Q (.bl (!c)) H1) : tNotV ta σ H Q := k
theorem z_if (k : c σ H fun b H1 => if b = true then ta σ H1 Q else tb σ H1 Q) : tIf c ta tb σ H Q := k
theorem z_bl1 {P : Bool → Prop} (k : P bb) : ∃ k, V.bl bb = .bl k ∧ P k := ⟨bb, rfl, k⟩
-- operators
theorem z_add (k : Q (.int (a + b)) H) : uAdd K (.int a) (.int b) H Q := k
theorem z_addS (h : x.length + y.length ≤ 100000) (k : Q (.str (x ++ y)) H) : uAdd K (.str x) (.str y) H Q := ⟨Nat.le_trans h (by decide), k⟩
theorem z_addL {xs ys : List V} (h1 : H p = some (.lst xs)) (h2 : H q = some (.lst ys)) (h : xs.length + ys.length ≤ 100000) (k : ∀ l, H l = none → Q (.ref l) (upd H l (.lst (xs ++ ys)))) : uAdd K (.ref p) (.ref q) H Q :=
  .inl ⟨p, q, xs, ys, rfl, rfl, h1, h2, Nat.le_trans h (by decide), k⟩
theorem z_sub (k : Q (.int (a - b)) H) : uSub (.int a) (.int b) H Q := k
theorem z_mul (h : MulOk a b) (k : Q (.int (a * b)) H) : uMul (.int a) (.int b) H Q := ⟨h, k⟩
theorem z_div (h : CDivW a b) (k : Q (.int (a / b)) H) : uDiv (.int a) (.int b) H Q := ⟨h, k⟩
theorem z_mod (h : 0 < b) (k : Q (.int (a % b)) H) : uMod (.int a) (.int b) H Q := ⟨h, k⟩
theorem z_pow (h : CPow a b) (k : Q (.int (a ^ b.toNat)) H) : uPow (.int a) (.int b) H Q := ⟨h, k⟩
theorem z_neg (k : Q (.int (-a)) H) : uNeg (.int a) H Q := k
theorem z_lt (k : Q (.bl (decide (a < b))) H) : uLt K (.int a) (.int b) H Q := k
theorem z_ltS (k : Q (.bl (decide (x.cps.toList < y.cps.toList))) H) : uLt K (.str x) (.str y) H Q := k
theorem z_ltIS {i j : Int} {x y : Str} (h1 : SqT K H p [.int i, .str x]) (h2 : SqT K H q [.int j, .str y]) (k : Q (.bl (if i = j then decide (x.cps.toList < y.cps.toList) else decide (i < j))) H) : uLt K (.ref p) (.ref q) H Q := by
  refine .inr ⟨_, _, h1, h2, ?_, ?_⟩
  · intro n u v hu hv
    match n with
    | 0 => cases hu; cases hv; rfl
    | 1 => cases hu; cases hv; rfl
    | n + 2 => cases hu
  · have e : Ob.lexAt (fun n => decide (([V.int i, .str x])[n]? = ([V.int j, .str y])[n]?)) (ltV2 [.int i, .str x] [.int j, .str y]) (decide (([V.int i, .str x] : List V).length < ([V.int j, .str y] : List V).length)) 0 (min ([V.int i, .str x] : List V).length ([V.int j, .str y] : List V).length) = (if i = j then decide (x.cps.toList < y.cps.toList) else decide (i < j)) := by
      show Ob.lexAt _ _ false 0 2 = _
      rw [Ob.lexAt_succ, Ob.lexAt_succ, Ob.lexAt_zero]
      by_cases h : i = j
      · subst h
        rw [if_pos (by simp), if_pos rfl]
        by_cases h2 : x = y
        · subst h2
          rw [if_pos (by simp), decide_eq_false (List.lt_irrefl _)]
        · rw [if_neg (by simp [h2])]; rfl
      · rw [if_neg (by simp [h]), if_neg h]; rfl
    rw [e]; exact k
theorem z_le (k : Q (.bl (decide (a ≤ b))) H) : uLe (.int a) (.int b) H Q := k
theorem z_leS (k : Q (.bl (!decide (y.cps.toList < x.cps.toList))) H) : uLe (.str x) (.str y) H Q := k
theorem z_gt (k : Q (.bl (decide (b < a))) H) : uGt (.int a) (.int b) H Q := k
theorem z_gtS (k : Q (.bl (decide (y.cps.toList < x.cps.toList))) H) : uGt (.str x) (.str y) H Q := k
theorem z_ge (k : Q (.bl (decide (b ≤ a))) H) : uGe (.int a) (.int b) H Q := k
theorem z_geS (k : Q (.bl (!decide (x.cps.toList < y.cps.toList))) H) : uGe (.str x) (.str y) H Q := k
theorem z_eq (k : Q (.bl (decide (a = b))) H) : uEq K (.int a) (.int b) H Q := k
theorem z_eqS (k : Q (.bl (decide (x = y))) H) : uEq K (.str x) (.str y) H Q := k
theorem z_eqB {a b : Bool} (k : Q (.bl (decide (a = b))) H) : uEq K (.bl a) (.bl b) H Q := k
theorem z_eqN (k : Q (.bl true) H) : uEq K .non .non H Q := k
theorem z_eqIS (k : Q (.bl false) H) : uEq K (.int a) (.str x) H Q := .inl ⟨rfl, by rw [decide_eq_false (by intro z; cases z)]; exact k⟩
theorem z_eqSI (k : Q (.bl false) H) : uEq K (.str x) (.int a) H Q := .inl ⟨rfl, by rw [decide_eq_false (by intro z; cases z)]; exact k⟩
theorem z_eqD {d e : PyData} (h1 : Dp K H (.ref p) d) (h2 : Dp K H (.ref q) e) (s1 : SeqAt.shaped d = true) (s2 : SeqAt.shaped e = true) (k : Q (.bl (PyData.eqv d e)) H) : uEq K (.ref p) (.ref q) H Q := .inl ⟨d, e, h1, h2, s1, s2, k⟩
theorem z_ne (k : Q (.bl (!decide (a = b))) H) : uNe K (.int a) (.int b) H Q := k
theorem z_neS (k : Q (.bl (!decide (x = y))) H) : uNe K (.str x) (.str y) H Q := k
theorem z_neB {a b : Bool} (k : Q (.bl (!decide (a = b))) H) : uNe K (.bl a) (.bl b) H Q := k
theorem z_neN (k : Q (.bl false) H) : uNe K .non .non H Q := k
theorem z_neIS (k : Q (.bl true) H) : uNe K (.int a) (.str x) H Q := .inl ⟨rfl, by rw [decide_eq_false (by intro z; cases z)]; exact k⟩
theorem z_neSI (k : Q (.bl true) H) : uNe K (.str x) (.int a) H Q := .inl ⟨rfl, by rw [decide_eq_false (by intro z; cases z)]; exact k⟩
theorem z_neD {d e : PyData} (h1 : Dp K H (.ref p) d) (h2 : Dp K H (.ref q) e) (s1 : SeqAt.shaped d = true) (s2 : SeqAt.shaped e = true) (k : Q (.bl (!PyData.eqv d e)) H) : uNe K (.ref p) (.ref q) H Q := .inl ⟨d, e, h1, h2, s1, s2, k⟩
theorem allB_true {xs ys : List V} {e : Nat → Bool} (hl : xs.length = ys.length) (h : ∀ i, i < xs.length → e i = true) : allB xs ys e = true := by
  unfold allB
  rw [← hl, Nat.min_self, beq_self_eq_true, Bool.and_true, List.all_eq_true]
  exact fun i hi => h i (List.mem_range.mp hi)
/-- surely equal -/
theorem z_eqSame {n : Nat} {xs ys : List V} (hn : n ≤ 16) (hs : sameSq K H p q xs ys) (hl : xs.length = ys.length) (he : ∀ (i : Nat) (x y : V), xs[i]? = some x → ys[i]? = some y → EqB K H n x y true) (k : Q (.bl true) H) : uEq K (.ref p) (.ref q) H Q :=
  .inr ⟨n, xs, ys, fun _ => true, hn, hs, he, by rw [allB_true hl fun _ _ => rfl]; exact k⟩
theorem z_neSame {n : Nat} {xs ys : List V} (hn : n ≤ 16) (hs : sameSq K H p q xs ys) (hl : xs.length = ys.length) (he : ∀ (i : Nat) (x y : V), xs[i]? = some x → ys[i]? = some y → EqB K H n x y true) (k : Q (.bl false) H) : uNe K (.ref p) (.ref q) H Q :=
  .inr ⟨n, xs, ys, fun _ => true, hn, hs, he, by rw [allB_true hl fun _ _ => rfl]; exact k⟩
theorem EqB.self : ∀ {v : V}, (flatV v = true ∨ ∃ a, v = .ref a) → EqB K H 0 v v true := by
  intro v h
  rcases h with h | ⟨a, rfl⟩
  · refine .inl ⟨h, h, ?_⟩
    cases v <;> first | (cases h; done) | (simp [eqV]; done)
  · exact .inr ⟨a, rfl, rfl, rfl⟩
theorem EqB.up {v w : V} {b : Bool} : ∀ {n m : Nat}, n ≤ m → EqB K H n v w b → EqB K H m v w b := by
  intro n m h e
  induction h with
  | refl => exact e
  | step _ ih => exact .inl ih
theorem EqB.sq {n : Nat} {a c : Addr} {xs ys : List V} (hs : sameSq K H a c xs ys) (hl : xs.length = ys.length) (he : ∀ (i : Nat) (x y : V), xs[i]? = some x → ys[i]? = some y → EqB K H n x y true) : EqB K H (n + 1) (.ref a) (.ref c) true :=
  .inr ⟨a, c, xs, ys, fun _ => true, rfl, rfl, hs, he, (allB_true hl fun _ _ => rfl).symm⟩
theorem EqB.str {x y : Str} : EqB K H 0 (.str x) (.str y) (decide (x = y)) := .inl ⟨rfl, rfl, by simp only [eqV]; rw [Bool.eq_iff_iff, decide_eq_true_iff, beq_iff_eq]⟩
theorem EqB.int {x y : Int} : EqB K H 0 (.int x) (.int y) (decide (x = y)) := .inl ⟨rfl, rfl, by simp only [eqV]; rw [Bool.eq_iff_iff, decide_eq_true_iff, beq_iff_eq]⟩
theorem EqB.of {n : Nat} {a c : Addr} {xs ys : List V} {e : Nat → Bool} {b : Bool} (hs : sameSq K H a c xs ys) (he : ∀ (i : Nat) (x y : V), xs[i]? = some x → ys[i]? = some y → EqB K H n x y (e i)) (hb : b = allB xs ys e) : EqB K H (n + 1) (.ref a) (.ref c) b := .inr ⟨a, c, xs, ys, e, rfl, rfl, hs, he, hb⟩
theorem z_eqOf {n : Nat} {xs ys : List V} {e : Nat → Bool} {b : Bool} (hn : n ≤ 16) (hs : sameSq K H p q xs ys) (he : ∀ (i : Nat) (x y : V), xs[i]? = some x → ys[i]? = some y → EqB K H n x y (e i)) (hb : b = allB xs ys e) (k : Q (.bl b) H) : uEq K (.ref p) (.ref q) H Q := .inr ⟨n, xs, ys, e, hn, hs, he, by rw [← hb]; exact k⟩
theorem z_neOf {n : Nat} {xs ys : List V} {e : Nat → Bool} {b : Bool} (hn : n ≤ 16) (hs : sameSq K H p q xs ys) (he : ∀ (i : Nat) (x y : V), xs[i]? = some x → ys[i]? = some y → EqB K H n x y (e i)) (hb : b = allB xs ys e) (k : Q (.bl (!b)) H) : uNe K (.ref p) (.ref q) H Q := .inr ⟨n, xs, ys, e, hn, hs, he, by rw [← hb]; exact k⟩
theorem z_is (k : Q (.bl (decide (v = .non))) H) : uIs v .non H Q := by cases v <;> exact k
theorem z_isNot (k : Q (.bl (!decide (v = .non))) H) : uIsNot v .non H Q := by cases v <;> exact k
theorem z_isB {a b : Bool} (k : Q (.bl (decide (a = b))) H) : uIs (.bl a) (.bl b) H Q := k
theorem z_isNotB {a b : Bool} (k : Q (.bl (!decide (a = b))) H) : uIsNot (.bl a) (.bl b) H Q := k
theorem z_in (h : SqL K H p xs ∨ SqT K H p xs) (hx : flatV v = true) (ha : xs.all flatV = true) (k : Q (.bl (inV v xs)) H) : uIn K v (.ref p) H Q := by
  cases v <;> exact ⟨p, xs, rfl, h, hx, ha, k⟩
theorem z_notIn (h : SqL K H p xs ∨ SqT K H p xs) (hx : flatV v = true) (ha : xs.all flatV = true) (k : Q (.bl (!inV v xs)) H) : uNotIn K v (.ref p) H Q := by
  cases v <;> exact ⟨p, xs, rfl, h, hx, ha, k⟩
theorem z_isbb {a : Bool} (k : Q (.bl true) H) : uIsi K [.bl a, .ty "bool"] H Q := ⟨_, _, true, .ty _, .base (.bl a), rfl, k⟩
theorem z_isbi {a : Bool} (k : Q (.bl true) H) : uIsi K [.bl a, .ty "int"] H Q := ⟨_, _, true, .ty _, .base (.bl a), rfl, k⟩
theorem z_isll (h : H p = some (.lst xs)) (k : Q (.bl true) H) : uIsi K [.ref p, .ty "list"] H Q := ⟨_, _, true, .ty _, .base (.lst h), rfl, k⟩
theorem z_istt (h : H p = some (.tup xs)) (k : Q (.bl true) H) : uIsi K [.ref p, .ty "tuple"] H Q := ⟨_, _, true, .ty _, .base (.tup h), rfl, k⟩
theorem z_chain {r r' : R2} {tc : TE} (k : ta σ H fun x H1 => tb σ H1 fun y H2 => r x y H2 fun z H3 => ∃ k, z = .bl k ∧ if k = true then tc σ H3 fun w H4 => r' y w H4 Q else Q (.bl false) H3) : tChain r r' ta tb tc σ H Q := k
-- items, built-ins
theorem z_ix (h : SqL K H p xs ∨ SqT K H p xs) (e : atI xs a = some v) (k : Q v H) : uIx K (.ref p) (.int a) H Q := ⟨xs, v, h, e, k⟩
theorem z_len (h : SqL K H p xs ∨ SqT K H p xs) (k : Q (.int xs.length) H) : uLen K [.ref p] H Q := ⟨xs, h, k⟩
theorem z_int (k : Q (.int a) H) : uInt [.int a] H Q := k
theorem z_max (k : Q (.int (if b > a then b else a)) H) : uMax [.int a, .int b] H Q := k
theorem z_min (k : Q (.int (if b < a then b else a)) H) : uMin [.int a, .int b] H Q := k
theorem z_abs (k : Q (.int (if a < 0 then -a else a)) H) : uAbs [.int a] H Q := k
theorem z_list (h : SqL K H p xs ∨ SqT K H p xs) (k : ∀ l, H l = none → Q (.ref l) (upd H l (.lst xs))) : uList K [.ref p] H Q := ⟨xs, h, k⟩
theorem z_tupleL (h : SqL K H p xs) (k : ∀ l, H l = none → Q (.ref l) (upd H l (.tup xs))) : uTuple K [.ref p] H Q := ⟨xs, .inl ⟨h, k⟩⟩
theorem z_tupleT (h : SqT K H p xs) (k : Q (.ref p) H) : uTuple K [.ref p] H Q := ⟨xs, .inr ⟨h, k⟩⟩
theorem z_isi {w : V} {t' u' : Value} (h1 : ClsV w u') (h2 : TyX K H v t') (h3 : PySem.W.kitOne K t' u' = some bb) (k : Q (.bl bb) H) : uIsi K [v, w] H Q := ⟨t', u', bb, h1, h2, h3, k⟩
theorem z_isii (k : Q (.bl true) H) : uIsi K [.int a, .ty "int"] H Q := ⟨_, _, true, .ty _, .base (.int a), rfl, k⟩
theorem z_isib (k : Q (.bl false) H) : uIsi K [.int a, .ty "bool"] H Q := ⟨_, _, false, .ty _, .base (.int a), rfl, k⟩
-- statements
theorem z_seq (k : t1 { D with nx := t2 D } σ H) : tSeq t1 t2 D σ H := k
theorem z_next (k : D.nx σ H) : tNext D σ H := k
theorem z_brk (k : D.bk σ H) : tBreak D σ H := k
theorem z_cont (k : D.ct σ H) : tCont D σ H := k
theorem z_ret (k : te σ H D.rt) : tRet te D σ H := k
theorem z_retN (k : D.rt .non H) : tRetN D σ H := k
theorem z_asg (k : te σ H fun x H1 => D.nx (σ.set i (some x)) H1) : tAsg te (gName i) D σ H := k
theorem z_drop (k : te σ H fun _ H1 => D.nx σ H1) : tDrop te D σ H := k
theorem z_ifS (k : c σ H fun b H1 => if b = true then t1 D σ H1 else t2 D σ H1) : tIfS c t1 t2 D σ H := k
theorem z_iteT {A B : Prop} (k : A) : if true = true then A else B := by rw [if_pos rfl]; exact k
theorem z_iteF {A B : Prop} (k : B) : if false = true then A else B := by rw [if_neg Bool.false_ne_true]; exact k
theorem z_iteT' {A B : Prop} (e : bb = true) (k : A) : if bb = true then A else B := by rw [if_pos e]; exact k
theorem z_iteF' {A B : Prop} (e : bb = false) (k : B) : if bb = true then A else B := by rw [if_neg (by rw [e]; exact Bool.false_ne_true)]; exact k
theorem z_ite {A B : Prop} (h1 : bb = true → A) (h2 : bb = false → B) : if bb = true then A else B := by
  cases bb with
  | true => rw [if_pos rfl]; exact h1 rfl
  | false => rw [if_neg Bool.false_ne_true]; exact h2 rfl
theorem z_itD {A B P : Prop} [Decidable P] (h1 : P → A) (h2 : ¬ P → B) : if decide P = true then A else B := by
  by_cases h : P
  · rw [if_pos (decide_eq_true h)]; exact h1 h
  · rw [if_neg (by rw [decide_eq_false h]; exact Bool.false_ne_true)]; exact h2 h
theorem z_itN {A B P : Prop} [Decidable P] (h1 : ¬ P → A) (h2 : P → B) : if (!decide P) = true then A else B := by
  by_cases h : P
  · rw [decide_eq_true h, if_neg (by decide)]; exact h2 h
  · rw [decide_eq_false h, if_pos (by decide)]; exact h1 h
-- loops
def zRng (g : TG) (tb : TS) (D : Ends) (σ : St) (lo : Int) (n : Nat) (H1 : Hp) : Prop := ∃ W : Nat → Nat → St → Hp → Prop, (∃ m, W 0 m σ H1) ∧ ∀ i m σ H, W i m σ H →
  ((Itr lo n).stop i H ∧ D.nx σ H) ∨ ((Itr lo n).go i H ∧ ∃ N : St → Hp → Prop, (∀ σ' H', N σ' H' → ∃ m', m' < m ∧ W (i + 1) m' σ' H') ∧ ∀ x H', (Itr lo n).yld i H x H' → g x σ H' fun σ2 H2 => tb { D with nx := N, ct := N, bk := D.nx } σ2 H2)
def zRng1 (g : TG) (tb : TS) (D : Ends) (σ : St) (vs : List V) (H1 : Hp) : Prop := ∃ j : Int, vs = [.int j] ∧ -(2 ^ 62) ≤ j ∧ j < 2 ^ 62 ∧ zRng g tb D σ 0 j.toNat H1
def zRng2 (g : TG) (tb : TS) (D : Ends) (σ : St) (vs : List V) (H1 : Hp) : Prop := ∃ i j : Int, vs = [.int i, .int j] ∧ (-(2 ^ 62) ≤ i ∧ i < 2 ^ 62 ∧ -(2 ^ 62) ≤ j ∧ j < 2 ^ 62) ∧ zRng g tb D σ i (j - i).toNat H1
def zIt (K : PySem.W.Frag) (g : TG) (tb : TS) (D : Ends) (σ : St) (v : V) (H1 : Hp) : Prop := ∃ a xs, v = .ref a ∧ ((SqL K H1 a xs ∧ ∃ W : Nat → Nat → St → Hp → Prop, (∃ m, W 0 m σ H1) ∧ ∀ i m σ H, W i m σ H →
  ((Itl K a).stop i H ∧ D.nx σ H) ∨ ((Itl K a).go i H ∧ ∃ N : St → Hp → Prop, (∀ σ' H', N σ' H' → ∃ m', m' < m ∧ W (i + 1) m' σ' H') ∧ ∀ x H', (Itl K a).yld i H x H' → g x σ H' fun σ2 H2 => tb { D with nx := N, ct := N, bk := D.nx } σ2 H2)) ∨
  (SqT K H1 a xs ∧ ∃ W : Nat → Nat → St → Hp → Prop, (∃ m, W 0 m σ H1) ∧ ∀ i m σ H, W i m σ H →
  ((Itt K a).stop i H ∧ D.nx σ H) ∨ ((Itt K a).go i H ∧ ∃ N : St → Hp → Prop, (∀ σ' H', N σ' H' → ∃ m', m' < m ∧ W (i + 1) m' σ' H') ∧ ∀ x H', (Itt K a).yld i H x H' → g x σ H' fun σ2 H2 => tb { D with nx := N, ct := N, bk := D.nx } σ2 H2)))
def iSq (K : PySem.W.Frag) (tl : TE) : TI := fun σ H R => tl σ H fun x H1 => ∃ a, x = .ref a ∧ (((∃ xs, SqL K H1 a xs) ∧ R (Itl K a) H1) ∨ ((∃ xs, SqT K H1 a xs) ∧ R (Itt K a) H1))
variable {g : TG} {ti : TS}
theorem z_for1 (k : t σ H fun vs H1 => zRng1 g ti D σ vs H1) : tFor (iRng1 t) g ti D σ H := k
theorem z_for2 (k : t σ H fun vs H1 => zRng2 g ti D σ vs H1) : tFor (iRng2 t) g ti D σ H := k
theorem z_rng1 {j : Int} (hb : j ≤ 1000000) (h : zRng g ti D σ 0 j.toNat H) (hb2 : -1000000 ≤ j) : zRng1 g ti D σ [.int j] H := ⟨j, rfl, by omega, by omega, h⟩
theorem z_rng2 {i j : Int} (h : zRng g ti D σ i (j - i).toNat H) (hb : -1000000 ≤ i ∧ i ≤ 1000000 ∧ -1000000 ≤ j ∧ j ≤ 1000000) : zRng2 g ti D σ [.int i, .int j] H := ⟨i, j, rfl, by omega, h⟩
/-- over a range: Pv by turns done, slots, heap -/
theorem z_rng {lo : Int} {n v : Nat} (Pv : Nat → St → Hp → Prop) (h0 : Pv 0 σ H)
    (hs : ∀ i σ H, i < n → Pv i σ H → ti { D with nx := Pv (i + 1), ct := Pv (i + 1), bk := D.nx } (σ.set v (some (.int (lo + i)))) H) (hd : ∀ σ H, Pv n σ H → D.nx σ H) : zRng (gName v) ti D σ lo n H :=
  for_range (g := gName v) (tb := ti) (D := D) Pv h0 hs hd
theorem z_while (Pv : Nat → St → Hp → Prop) (m : Nat) (h0 : Pv m σ H)
    (hs : ∀ m σ H, Pv m σ H → c σ H fun b H1 => if b = true then ∃ N : St → Hp → Prop, (∀ σ' H', N σ' H' → ∃ m', m' < m ∧ Pv m' σ' H') ∧ ti { D with nx := N, ct := N, bk := D.nx } σ H1 else D.nx σ H1) : tWhile c ti D σ H :=
  ⟨Pv, ⟨m, h0⟩, hs⟩
theorem z_turn {m : Nat} {Pv : Nat → St → Hp → Prop} {bk : St → Hp → Prop} (k : ti { D with nx := fun σ' H' => ∃ m', m' < m ∧ Pv m' σ' H', ct := fun σ' H' => ∃ m', m' < m ∧ Pv m' σ' H', bk := bk } σ H) :
    ∃ N : St → Hp → Prop, (∀ σ' H', N σ' H' → ∃ m', m' < m ∧ Pv m' σ' H') ∧ ti { D with nx := N, ct := N, bk := bk } σ H := ⟨_, fun _ _ h => h, k⟩
theorem mul1 (h : -1000000000000000000 < a ∧ a < 1000000000000000000) : MulOk a b := .inl (.inl (by omega))
theorem mul2 (h : -1000000000000000000 < b ∧ b < 1000000000000000000) : MulOk a b := .inl (.inr (by omega))
theorem div1 (h : 0 < b ∧ b < 1000000000000000000) : CDivW a b := wide_div h.1 (b := 64) (by omega) (by decide) (by decide)
end
/-! ### heaps -/
theorem lk_ne {H : Hp} {a b : Addr} {o u : HO} (h : a ≠ b) (e : H a = some u) : upd H b o a = some u := by rw [upd_ne h]; exact e
theorem ne_n {H : Hp} {a b : Addr} {o : HO} (h' : H b = none) (h : H a = some o) : a ≠ b := ne_of_none h h'
theorem sqL_new {K : PySem.W.Frag} {H : Hp} {a b : Addr} {o : HO} {xs : List V} (h : H b = none) (e : SqL K H a xs) : SqL K (upd H b o) a xs := by
  rcases e with (e | ⟨u, e⟩) | e
  · exact .inl (.inl (lk_ne (ne_of_none e h) e))
  · exact .inl (.inr ⟨u, lk_ne (ne_of_none e h) e⟩)
  · exact .inr e
theorem sqT_new {K : PySem.W.Frag} {H : Hp} {a b : Addr} {o : HO} {xs : List V} (h : H b = none) (e : SqT K H a xs) : SqT K (upd H b o) a xs := by
  rcases e with (e | ⟨u, e⟩) | e
  · exact .inl (.inl (lk_ne (ne_of_none e h) e))
  · exact .inl (.inr ⟨u, lk_ne (ne_of_none e h) e⟩)
  · exact .inr e
theorem sqL_ne {K : PySem.W.Frag} {H : Hp} {a b : Addr} {o : HO} {xs : List V} (h : a ≠ b) (e : SqL K H a xs) : SqL K (upd H b o) a xs := by
  rcases e with (e | ⟨u, e⟩) | e
  · exact .inl (.inl (lk_ne h e))
  · exact .inl (.inr ⟨u, lk_ne h e⟩)
  · exact .inr e
theorem sqT_ne {K : PySem.W.Frag} {H : Hp} {a b : Addr} {o : HO} {xs : List V} (h : a ≠ b) (e : SqT K H a xs) : SqT K (upd H b o) a xs := by
  rcases e with (e | ⟨u, e⟩) | e
  · exact .inl (.inl (lk_ne h e))
  · exact .inl (.inr ⟨u, lk_ne h e⟩)
  · exact .inr e
/-- what stands there is no state of draws -/
def NotSt (o : HO) : Prop := ∀ (L : Addr) (k a : Int), o ≠ .lst [.ref L, .int k, .int a]
theorem NotSt.ints {ns : List Int} : NotSt (.lst (ns.map V.int)) := fun L k a z => by
  cases ns with
  | nil => cases z
  | cons x r => injection z with z; injection z with z1 _; cases z1
theorem NotSt.refs {ps : List Addr} : NotSt (.lst (ps.map V.ref)) := fun L k a z => by
  cases ps with
  | nil => cases z
  | cons x r => cases r with
    | nil => cases z
    | cons y t => injection z with z; injection z with _ z; injection z with z _; cases z
theorem NotSt.strs {xs : List Str} : NotSt (.lst (xs.map V.str)) := fun L k a z => by
  cases xs with
  | nil => cases z
  | cons x r => injection z with z; injection z with z1 _; cases z1
/-- all that was tracked is as it was, but the states of draws -/
def ExD (H H' : Hp) : Prop := ∀ a o, NotSt o → H a = some o → H' a = some o
theorem ExD.lk {a : Addr} {H H' : Hp} {o : HO} (x : ExD H H') (e : H a = some o) (h : NotSt o) : H' a = some o := x a o h e
theorem ExD.refl (H : Hp) : ExD H H := fun _ _ _ e => e
theorem ExD.trans {H H1 H2 : Hp} (x : ExD H H1) (y : ExD H1 H2) : ExD H H2 := fun a o h e => y a o h (x a o h e)
theorem ExD.new {p : Addr} {H H1 : Hp} {o : HO} (h : H p = none) (x : ExD H H1) : ExD H (upd H1 p o) := fun a u ha e => lk_ne (ne_of_none e h) (x a u ha e)
theorem ExD.of {H H' : Hp} (x : Same H H') : ExD H H' := fun a o _ e => x a o e
theorem ExD.st {st L : Addr} {k a : Int} {H H1 : Hp} {o : HO} (e : H st = some (.lst [.ref L, .int k, .int a])) (x : ExD H H1) : ExD H (upd H1 st o) := fun b u hb f => by
  refine lk_ne (fun z => ?_) (x b u hb f)
  subst z; rw [e] at f; exact hb L k a (Option.some.inj f).symm
theorem Same.lk {a : Addr} {H H' : Hp} {o : HO} (x : Same H H') (e : H a = some o) : H' a = some o := x a o e
theorem lk_new {H : Hp} {a b : Addr} {o u : HO} (h : H b = none) (e : H a = some u) : upd H b o a = some u := lk_ne (ne_of_none e h) e
theorem lk_df {H : Hp} {a b : Addr} {o u w : HO} (e : H a = some u) (f : H b = some w) (d : u ≠ w) : upd H b o a = some u := lk_ne (fun z => by subst z; rw [e] at f; exact d (Option.some.inj f)) e

section
variable {K : PySem.W.Frag} {σ : St} {H : Hp} {Q : VK} {te ta tb : TE} {t u : TS} {D : Ends} {p : Addr} {xs : List V} {a : Int} {v : V} {j : Nat}
theorem z_cutI (k : t { D with nx := u D } σ H) : tCut t u D σ H := ⟨u D, k, fun _ _ h => h⟩
theorem z_cut (M : St → Hp → Prop) (k : t { D with nx := M } σ H) (h : ∀ σ' H', M σ' H' → u D σ' H') : tCut t u D σ H := ⟨M, k, h⟩
theorem z_asgS (k : te σ H fun x H1 => ta σ H1 fun o H2 => tb σ H2 fun i H3 => rSetL o i x H3 fun H4 => D.nx σ H4) : tAsg te (gSub ta tb rSetL) D σ H := k
theorem z_setL {Q : Hp → Prop} (h : H p = some (.lst xs)) (e : ixN xs.length a = some j) (k : Q (upd H p (.lst (xs.set j v)))) : rSetL (.ref p) (.int a) v H Q := ⟨p, xs, a, j, rfl, rfl, h, e, k⟩
theorem z_app (h : H p = some (.lst xs)) (hl : xs.length < 100000) (k : Q .non (upd H p (.lst (xs ++ [v])))) : rAppend (.ref p) [v] H Q := ⟨p, xs, v, rfl, rfl, h, Nat.lt_of_lt_of_le hl (by decide), k⟩
theorem tyL (h : H p = some (.lst xs)) : tyV K "list" (.ref p) H := Or.inl ⟨rfl, _, Or.inl (Or.inl h)⟩
theorem z_bm {T : String} {r : V → List V → Hp → VK → Prop} {to : TE} {t : TA} (k : to σ H fun x H1 => tyV K T x H1 ∧ t σ H1 fun xs H2 => r x xs H2 Q) : tBM K T r to t σ H Q := k
theorem upd_self {H : Hp} {a : Addr} {o : HO} (h : H a = some o) : upd H a o = H := by
  funext b; unfold upd; split
  · rename_i e; subst e; exact h.symm
  · rfl
theorem ix_at {α : Type} {xs : List α} {i : Int} (h0 : 0 ≤ i) (h1 : i < xs.length) : ixN xs.length i = some i.toNat := by
  unfold ixN; rw [if_pos h0, if_pos h1]
theorem at_int {ns : List Int} {i : Int} (h0 : 0 ≤ i) (h1 : i < ns.length) : atI (ns.map V.int) i = some (.int (ns.getD i.toNat 0)) := by
  unfold atI
  rw [ix_at h0 (by simpa using h1)]
  have : i.toNat < ns.length := by omega
  simp [List.getD, this]
end
/-- a body keeps its promise, from the promise as it was handed in -/
def Wd (T : TS) (N : List Str) (n : Nat) (sp : Sp) : Prop := ∀ (vs : List V) (H : Hp) (Q : VK) (E : XK), sp vs H Q E → vs.length = n ∧ T { nx := fun _ H' => Q .non H', rt := Q } (start N vs) H

/-! ### comprehensions -/
def zLcR (g : TG) (tt : TT) (te : TE) (vs : List Nat) (σ : St) (lo : Int) (n : Nat) (H1 : Hp) (Q : VK) : Prop := ∀ D, H1 D = none → ∃ W : Nat → Nat → Hp → Prop, (∃ m, W 0 m (upd H1 D (.lst []))) ∧ ∀ i m H, W i m H →
  ((Itr lo n).stop i H ∧ Q (.ref D) H) ∨ ((Itr lo n).go i H ∧ ∃ Nx : Hp → Prop, (∀ H', Nx H' → ∃ m', m' < m ∧ W (i + 1) m' H') ∧ ∀ x H', (Itr lo n).yld i H x H' → g x (wipe σ vs) H' fun σ2 H2 => wipe σ2 vs = wipe σ vs ∧ tt σ2 H2 fun b H3 =>
    if b = true then te σ2 H3 fun y H4 => ∃ acc, H4 D = some (.lst acc) ∧ acc.length < sizeLine ∧ Nx (upd H4 D (.lst (acc ++ [y]))) else Nx H3)
def zLcR1 (g : TG) (tt : TT) (te : TE) (vs : List Nat) (σ : St) (as : List V) (H1 : Hp) (Q : VK) : Prop := ∃ j : Int, as = [.int j] ∧ -(2 ^ 62) ≤ j ∧ j < 2 ^ 62 ∧ zLcR g tt te vs σ 0 j.toNat H1 Q
def zLcL (K : PySem.W.Frag) (g : TG) (tt : TT) (te : TE) (vs : List Nat) (σ : St) (a : Addr) (H1 : Hp) (Q : VK) : Prop := ∀ D, H1 D = none → ∃ W : Nat → Nat → Hp → Prop, (∃ m, W 0 m (upd H1 D (.lst []))) ∧ ∀ i m H, W i m H →
  ((Itl K a).stop i H ∧ Q (.ref D) H) ∨ ((Itl K a).go i H ∧ ∃ Nx : Hp → Prop, (∀ H', Nx H' → ∃ m', m' < m ∧ W (i + 1) m' H') ∧ ∀ x H', (Itl K a).yld i H x H' → g x (wipe σ vs) H' fun σ2 H2 => wipe σ2 vs = wipe σ vs ∧ tt σ2 H2 fun b H3 =>
    if b = true then te σ2 H3 fun y H4 => ∃ acc, H4 D = some (.lst acc) ∧ acc.length < sizeLine ∧ Nx (upd H4 D (.lst (acc ++ [y]))) else Nx H3)
def zLcT (K : PySem.W.Frag) (g : TG) (tt : TT) (te : TE) (vs : List Nat) (σ : St) (a : Addr) (H1 : Hp) (Q : VK) : Prop := ∀ D, H1 D = none → ∃ W : Nat → Nat → Hp → Prop, (∃ m, W 0 m (upd H1 D (.lst []))) ∧ ∀ i m H, W i m H →
  ((Itt K a).stop i H ∧ Q (.ref D) H) ∨ ((Itt K a).go i H ∧ ∃ Nx : Hp → Prop, (∀ H', Nx H' → ∃ m', m' < m ∧ W (i + 1) m' H') ∧ ∀ x H', (Itt K a).yld i H x H' → g x (wipe σ vs) H' fun σ2 H2 => wipe σ2 vs = wipe σ vs ∧ tt σ2 H2 fun b H3 =>
    if b = true then te σ2 H3 fun y H4 => ∃ acc, H4 D = some (.lst acc) ∧ acc.length < sizeLine ∧ Nx (upd H4 D (.lst (acc ++ [y]))) else Nx H3)
def zLcS (K : PySem.W.Frag) (g : TG) (tt : TT) (te : TE) (vs : List Nat) (σ : St) (x : V) (H1 : Hp) (Q : VK) : Prop := ∃ a, x = .ref a ∧ (((∃ xs, SqL K H1 a xs) ∧ zLcL K g tt te vs σ a H1 Q) ∨ ((∃ xs, SqT K H1 a xs) ∧ zLcT K g tt te vs σ a H1 Q))
def zForS (K : PySem.W.Frag) (g : TG) (tb : TS) (D : Ends) (σ : St) (x : V) (H1 : Hp) : Prop := ∃ a, x = .ref a ∧ (((∃ xs, SqL K H1 a xs) ∧ ∃ W : Nat → Nat → St → Hp → Prop, (∃ m, W 0 m σ H1) ∧ ∀ i m σ H, W i m σ H →
  ((Itl K a).stop i H ∧ D.nx σ H) ∨ ((Itl K a).go i H ∧ ∃ N : St → Hp → Prop, (∀ σ' H', N σ' H' → ∃ m', m' < m ∧ W (i + 1) m' σ' H') ∧ ∀ x H', (Itl K a).yld i H x H' → g x σ H' fun σ2 H2 => tb { D with nx := N, ct := N, bk := D.nx } σ2 H2)) ∨
  ((∃ xs, SqT K H1 a xs) ∧ ∃ W : Nat → Nat → St → Hp → Prop, (∃ m, W 0 m σ H1) ∧ ∀ i m σ H, W i m σ H →
  ((Itt K a).stop i H ∧ D.nx σ H) ∨ ((Itt K a).go i H ∧ ∃ N : St → Hp → Prop, (∀ σ' H', N σ' H' → ∃ m', m' < m ∧ W (i + 1) m' σ' H') ∧ ∀ x H', (Itt K a).yld i H x H' → g x σ H' fun σ2 H2 => tb { D with nx := N, ct := N, bk := D.nx } σ2 H2)))

section
open PyProof.Rows
theorem pi_sq {X : Cx} {tg l : Expr} {tl : TE} (hl : PE X l tl) : PI X tg l (iSq X.K tl) := by
  refine ⟨fun pins s σ H R I h => ?_⟩
  refine thn (hl.run pins s σ H _ I h) fun v s1 ⟨x, H1, I1, r1, q1⟩ => ?_
  obtain ⟨a, e, q1⟩ := q1
  subst e
  cases r1
  rcases q1 with ⟨⟨xs, hq⟩, q⟩ | ⟨⟨xs, hq⟩, q⟩
  · obtain ⟨its, rv, p, hz⟩ := I1.list hq
    refine wpAny_pyIter_list p.isList ?_
    refine ⟨s1.heap.objs.size, [s1.heap.objs.size], _, _, H1, rfl, I1.kept (t' := s1.toks) fun b o e => Heap.get?_push_of_some _ e, turn_list a _, ⟨_, Heap.get?_push_size _ rfl, rfl, rfl⟩, fun b hb => ?_, q⟩
    have e : b = s1.heap.objs.size := by simpa using hb
    subst e
    exact I1.fpOk (Nat.le_refl _) (I1.hok.fresh (Nat.le_refl _))
  · obtain ⟨its, rv, p, hz⟩ := I1.tuple hq
    refine wpAny_pyIter_tuple (show s1.heap.IsTuple a its.toArray from p) ?_
    refine ⟨s1.heap.objs.size, [s1.heap.objs.size], _, _, H1, rfl, I1.kept (t' := s1.toks) fun b o e => Heap.get?_push_of_some _ e, turn_tuple a _, ⟨_, Heap.get?_push_size _ rfl, rfl, rfl⟩, fun b hb => ?_, q⟩
    have e : b = s1.heap.objs.size := by simpa using hb
    subst e
    exact I1.fpOk (Nat.le_refl _) (I1.hok.fresh (Nat.le_refl _))
end
section
variable {K : PySem.W.Frag} {σ : L2.St} {H : Hp} {Q : VK} {D : Ends} {tt : TT} {te tl : TE} {ta : TA} {vs : List Nat} {g : TG} {tb : TS} {a : Addr} {xs : List V}
theorem z_forSq (k : tl σ H fun x H1 => zForS K g tb D σ x H1) : tFor (iSq K tl) g tb D σ H := k
theorem z_lcSq (k : tl σ H fun x H1 => zLcS K g tt te vs σ x H1 Q) : tLc (iSq K tl) g tt te vs σ H Q := k
theorem z_lc1 (k : ta σ H fun as H1 => zLcR1 g tt te vs σ as H1 Q) : tLc (iRng1 ta) g tt te vs σ H Q := k
theorem z_yes {QB : Bool → Hp → Prop} (k : QB true H) : tYes σ H QB := k
theorem z_accum {D : Addr} {acc : List V} {P : List V → Prop} (h : H D = some (.lst acc)) (hl : acc.length < 100000) (k : P acc) : ∃ acc, H D = some (.lst acc) ∧ acc.length < sizeLine ∧ P acc :=
  ⟨acc, h, Nat.lt_of_lt_of_le hl (by decide), k⟩
/-- over a list that stays -/
theorem z_forL (h : SqL K H a xs) (Pv : Nat → L2.St → Hp → Prop) (h0 : Pv 0 σ H) (hl : ∀ i σ' H', i ≤ xs.length → Pv i σ' H' → SqL K H' a xs)
    (hs : ∀ i x σ' H', xs[i]? = some x → Pv i σ' H' → g x σ' H' fun σ2 H2 => tb { D with nx := Pv (i + 1), ct := Pv (i + 1), bk := D.nx } σ2 H2) (hd : ∀ σ' H', Pv xs.length σ' H' → D.nx σ' H') : zForS K g tb D σ (.ref a) H :=
  ⟨a, rfl, .inl ⟨⟨xs, h⟩, for_list Pv h0 hl hs hd⟩⟩
theorem z_forT (h : SqT K H a xs) (Pv : Nat → L2.St → Hp → Prop) (h0 : Pv 0 σ H) (hl : ∀ i σ' H', i ≤ xs.length → Pv i σ' H' → SqT K H' a xs)
    (hs : ∀ i x σ' H', xs[i]? = some x → Pv i σ' H' → g x σ' H' fun σ2 H2 => tb { D with nx := Pv (i + 1), ct := Pv (i + 1), bk := D.nx } σ2 H2) (hd : ∀ σ' H', Pv xs.length σ' H' → D.nx σ' H') : zForS K g tb D σ (.ref a) H :=
  ⟨a, rfl, .inr ⟨⟨xs, h⟩, for_tup Pv h0 hl hs hd⟩⟩
theorem z_gName {v : V} {i : Nat} {P : L2.St → Hp → Prop} (k : P (σ.set i (some v)) H) : gName i v σ H P := k
theorem z_lcr1 {j : Int} (hb : -1000000 ≤ j ∧ j ≤ 1000000) (k : zLcR g tt te vs σ 0 j.toNat H Q) : zLcR1 g tt te vs σ [.int j] H Q := ⟨j, rfl, by omega, by omega, k⟩
theorem z_lcr {lo : Int} {n : Nat} (Pv : Addr → Nat → Hp → Prop) (h0 : ∀ D, H D = none → Pv D 0 (upd H D (.lst [])))
    (hs : ∀ D i H', H D = none → i < n → Pv D i H' → g (.int (lo + i)) (wipe σ vs) H' fun σ2 H2 => wipe σ2 vs = wipe σ vs ∧ tt σ2 H2 fun b H3 =>
      if b = true then te σ2 H3 fun y H4 => ∃ acc, H4 D = some (.lst acc) ∧ acc.length < sizeLine ∧ Pv D (i + 1) (upd H4 D (.lst (acc ++ [y]))) else Pv D (i + 1) H3)
    (hd : ∀ D H', H D = none → Pv D n H' → Q (.ref D) H') : zLcR g tt te vs σ lo n H Q :=
  fun D hD => lc_range (Pv D) (h0 D hD) (fun i H' hi p => hs D i H' hD hi p) (fun H' p => hd D H' hD p)
theorem z_lcl (h : SqL K H a xs) (Pv : Addr → Nat → Hp → Prop) (h0 : ∀ D, H D = none → Pv D 0 (upd H D (.lst []))) (hl : ∀ D i H', H D = none → i ≤ xs.length → Pv D i H' → SqL K H' a xs)
    (hs : ∀ D i x H', H D = none → xs[i]? = some x → Pv D i H' → g x (wipe σ vs) H' fun σ2 H2 => wipe σ2 vs = wipe σ vs ∧ tt σ2 H2 fun b H3 =>
      if b = true then te σ2 H3 fun y H4 => ∃ acc, H4 D = some (.lst acc) ∧ acc.length < sizeLine ∧ Pv D (i + 1) (upd H4 D (.lst (acc ++ [y]))) else Pv D (i + 1) H3)
    (hd : ∀ D H', H D = none → Pv D xs.length H' → Q (.ref D) H') : zLcS K g tt te vs σ (.ref a) H Q :=
  ⟨a, rfl, .inl ⟨⟨xs, h⟩, fun D hD => lc_list (Pv D) (h0 D hD) (fun i H' hi p => hl D i H' hD hi p) (fun i x H' hi p => hs D i x H' hD hi p) (fun H' p => hd D H' hD p)⟩⟩
theorem z_lct (h : SqT K H a xs) (Pv : Addr → Nat → Hp → Prop) (h0 : ∀ D, H D = none → Pv D 0 (upd H D (.lst []))) (hl : ∀ D i H', H D = none → i ≤ xs.length → Pv D i H' → SqT K H' a xs)
    (hs : ∀ D i x H', H D = none → xs[i]? = some x → Pv D i H' → g x (wipe σ vs) H' fun σ2 H2 => wipe σ2 vs = wipe σ vs ∧ tt σ2 H2 fun b H3 =>
      if b = true then te σ2 H3 fun y H4 => ∃ acc, H4 D = some (.lst acc) ∧ acc.length < sizeLine ∧ Pv D (i + 1) (upd H4 D (.lst (acc ++ [y]))) else Pv D (i + 1) H3)
    (hd : ∀ D H', H D = none → Pv D xs.length H' → Q (.ref D) H') : zLcS K g tt te vs σ (.ref a) H Q :=
  ⟨a, rfl, .inr ⟨⟨xs, h⟩, fun D hD => lc_tup (Pv D) (h0 D hD) (fun i H' hi p => hl D i H' hD hi p) (fun i x H' hi p => hs D i x H' hD hi p) (fun H' p => hd D H' hD p)⟩⟩
end
/-! ### zip -/
def zZip (K : PySem.W.Frag) (g : TG) (tb : TS) (D : Ends) (σ : L2.St) (vs : List V) (H1 : Hp) : Prop := ∃ a b xs ys, vs = [.ref a, .ref b] ∧ ((SqL K H1 a xs ∧ SqL K H1 b ys ∧ ∃ W : Nat → Nat → L2.St → Hp → Prop, (∃ m, W 0 m σ H1) ∧ ∀ i m σ H, W i m σ H →
  ((Itz K a b).stop i H ∧ D.nx σ H) ∨ ((Itz K a b).go i H ∧ ∃ N : L2.St → Hp → Prop, (∀ σ' H', N σ' H' → ∃ m', m' < m ∧ W (i + 1) m' σ' H') ∧ ∀ x H', (Itz K a b).yld i H x H' → g x σ H' fun σ2 H2 => tb { D with nx := N, ct := N, bk := D.nx } σ2 H2)) ∨
  (SqT K H1 a xs ∧ SqT K H1 b ys ∧ ∃ W : Nat → Nat → L2.St → Hp → Prop, (∃ m, W 0 m σ H1) ∧ ∀ i m σ H, W i m σ H →
  ((RZ.ItzT K a b).stop i H ∧ D.nx σ H) ∨ ((RZ.ItzT K a b).go i H ∧ ∃ N : L2.St → Hp → Prop, (∀ σ' H', N σ' H' → ∃ m', m' < m ∧ W (i + 1) m' σ' H') ∧ ∀ x H', (RZ.ItzT K a b).yld i H x H' → g x σ H' fun σ2 H2 => tb { D with nx := N, ct := N, bk := D.nx } σ2 H2)))
theorem Same.sqT {K : PySem.W.Frag} {H H' : Hp} {a : Addr} {xs : List V} (e : Same H H') (h : SqT K H a xs) : SqT K H' a xs := by
  rcases h with (h | ⟨o, h⟩) | h
  · exact .inl (.inl (e _ _ h))
  · exact .inl (.inr ⟨o, e _ _ h⟩)
  · exact .inr h
theorem Same.new {H H' : Hp} {p : Addr} {o : HO} (h : H' p = none) (e : Same H H') : Same H (upd H' p o) := fun b u q => lk_ne (ne_of_none (e b u q) h) (e b u q)
section
variable {K : PySem.W.Frag} {σ : L2.St} {H : Hp} {D : Ends} {ta : TA} {g : TG} {tb : TS} {a b : Addr} {xs ys : List V}
theorem z_forZ (k : ta σ H fun vs H1 => zZip K g tb D σ vs H1) : tFor (RZ.iZipA K ta) g tb D σ H := k
theorem z_zip {u v : Nat} (h : (SqL K H a xs ∧ SqL K H b ys) ∨ (SqT K H a xs ∧ SqT K H b ys)) (Pv : Nat → L2.St → Hp → Prop) (h0 : Pv 0 σ H) (hk : ∀ i σ' H', Pv i σ' H' → Same H H')
    (hs : ∀ i x y p σ' H', xs[i]? = some x → ys[i]? = some y → Pv i σ' H' → H' p = none → tb { D with nx := Pv (i + 1), ct := Pv (i + 1), bk := D.nx } ((σ'.set u (some x)).set v (some y)) (upd H' p (.tup [x, y])))
    (hd : ∀ σ' H', Pv (min xs.length ys.length) σ' H' → D.nx σ' H') : zZip K (gTup K 2 (gCons (gName u) (gCons (gName v) gNil))) tb D σ [.ref a, .ref b] H := by
  refine ⟨a, b, xs, ys, rfl, ?_⟩
  rcases h with ⟨h1, h2⟩ | ⟨h1, h2⟩
  · refine .inl ⟨h1, h2, fun i m σ H => m = min xs.length ys.length - i ∧ i ≤ min xs.length ys.length ∧ Pv i σ H, ⟨_, rfl, Nat.zero_le _, h0⟩, ?_⟩
    rintro i m σ' H' ⟨rfl, hi, p⟩
    have s := hk i σ' H' p
    have q1 := Same.seq s h1
    have q2 := Same.seq s h2
    by_cases hlt : i < min xs.length ys.length
    · have l1 : i < xs.length := by omega
      have l2 : i < ys.length := by omega
      refine .inr ⟨⟨xs, ys, xs[i], ys[i], q1, q2, by simp [l1], by simp [l2]⟩, Pv (i + 1), fun σ2 H2 p' => ⟨_, by omega, rfl, by omega, p'⟩, ?_⟩
      rintro x H2 ⟨T, x1, y1, rfl, hT, rfl, f1, f2⟩
      exact ⟨T, [x1, y1], rfl, .inl (.inl upd_same), rfl, x1, [y1], rfl, y1, [], rfl, rfl, hs i x1 y1 T σ' H' (f1 xs q1) (f2 ys q2) p hT⟩
    · have e : i = min xs.length ys.length := by omega
      subst e
      exact .inl ⟨⟨xs, ys, q1, q2, by omega⟩, hd σ' H' p⟩
  · refine .inr ⟨h1, h2, fun i m σ H => m = min xs.length ys.length - i ∧ i ≤ min xs.length ys.length ∧ Pv i σ H, ⟨_, rfl, Nat.zero_le _, h0⟩, ?_⟩
    rintro i m σ' H' ⟨rfl, hi, p⟩
    have s := hk i σ' H' p
    have q1 := Same.sqT s h1
    have q2 := Same.sqT s h2
    by_cases hlt : i < min xs.length ys.length
    · have l1 : i < xs.length := by omega
      have l2 : i < ys.length := by omega
      refine .inr ⟨⟨xs, ys, xs[i], ys[i], q1, q2, by simp [l1], by simp [l2]⟩, Pv (i + 1), fun σ2 H2 p' => ⟨_, by omega, rfl, by omega, p'⟩, ?_⟩
      rintro x H2 ⟨T, x1, y1, rfl, hT, rfl, f1, f2⟩
      exact ⟨T, [x1, y1], rfl, .inl (.inl upd_same), rfl, x1, [y1], rfl, y1, [], rfl, rfl, hs i x1 y1 T σ' H' (f1 xs q1) (f2 ys q2) p hT⟩
    · have e : i = min xs.length ys.length := by omega
      subst e
      exact .inl ⟨⟨xs, ys, q1, q2, by omega⟩, hd σ' H' p⟩
end
/-- an item of a list of ints -/
theorem map_int {xs : List Int} {i : Nat} {x : V} (h : (xs.map V.int)[i]? = some x) : i < xs.length ∧ x = .int (xs.getD i 0) := by
  rw [List.getElem?_map] at h
  cases e : xs[i]? with
  | none => rw [e] at h; cases h
  | some y =>
    rw [e] at h
    obtain ⟨l, _⟩ := List.getElem?_eq_some_iff.mp e
    exact ⟨l, by rw [List.getD_eq_getElem?_getD, e]; exact (Option.some.inj h).symm⟩
/-- a, b = a pair -/
theorem z_gTup2 {K : PySem.W.Frag} {H : Hp} {σ : L2.St} {P : L2.St → Hp → Prop} {t : Addr} {x y : V} {u v : Nat} (h : SqT K H t [x, y]) (k : P ((σ.set u (some x)).set v (some y)) H) : gTup K 2 (gCons (gName u) (gCons (gName v) gNil)) (.ref t) σ H P :=
  ⟨t, [x, y], rfl, h, rfl, x, [y], rfl, y, [], rfl, rfl, k⟩
/-! ### enumerate -/
def zEnum (K : PySem.W.Frag) (g : TG) (tb : TS) (D : Ends) (σ : L2.St) (vs : List V) (H1 : Hp) : Prop := ∃ a xs, vs = [.ref a] ∧ SqL K H1 a xs ∧ ∃ W : Nat → Nat → L2.St → Hp → Prop, (∃ m, W 0 m σ H1) ∧ ∀ i m σ H, W i m σ H →
  ((Ite K a).stop i H ∧ D.nx σ H) ∨ ((Ite K a).go i H ∧ ∃ N : L2.St → Hp → Prop, (∀ σ' H', N σ' H' → ∃ m', m' < m ∧ W (i + 1) m' σ' H') ∧ ∀ x H', (Ite K a).yld i H x H' → g x σ H' fun σ2 H2 => tb { D with nx := N, ct := N, bk := D.nx } σ2 H2)
def zLcE (K : PySem.W.Frag) (g : TG) (tt : TT) (te : TE) (vs : List Nat) (σ : L2.St) (as : List V) (H1 : Hp) (Q : VK) : Prop := ∃ a xs, as = [.ref a] ∧ SqL K H1 a xs ∧ ∀ D, H1 D = none → ∃ W : Nat → Nat → Hp → Prop, (∃ m, W 0 m (upd H1 D (.lst []))) ∧ ∀ i m H, W i m H →
  ((Ite K a).stop i H ∧ Q (.ref D) H) ∨ ((Ite K a).go i H ∧ ∃ Nx : Hp → Prop, (∀ H', Nx H' → ∃ m', m' < m ∧ W (i + 1) m' H') ∧ ∀ x H', (Ite K a).yld i H x H' → g x (wipe σ vs) H' fun σ2 H2 => wipe σ2 vs = wipe σ vs ∧ tt σ2 H2 fun b H3 =>
    if b = true then te σ2 H3 fun y H4 => ∃ acc, H4 D = some (.lst acc) ∧ acc.length < sizeLine ∧ Nx (upd H4 D (.lst (acc ++ [y]))) else Nx H3)
section
variable {K : PySem.W.Frag} {σ : L2.St} {H : Hp} {D : Ends} {ta : TA} {g : TG} {tb : TS} {a : Addr} {xs : List V} {tt : TT} {te : TE} {vs : List Nat} {Q : VK}
theorem z_forE (k : ta σ H fun vs H1 => zEnum K g tb D σ vs H1) : tFor (iEnum K ta) g tb D σ H := k
theorem z_lcE (k : ta σ H fun as H1 => zLcE K g tt te vs σ as H1 Q) : tLc (iEnum K ta) g tt te vs σ H Q := k
theorem z_enum {u v : Nat} (h : SqL K H a xs) (Pv : Nat → L2.St → Hp → Prop) (h0 : Pv 0 σ H) (hk : ∀ i σ' H', Pv i σ' H' → SqL K H' a xs)
    (hs : ∀ i x p σ' H', xs[i]? = some x → Pv i σ' H' → H' p = none → tb { D with nx := Pv (i + 1), ct := Pv (i + 1), bk := D.nx } ((σ'.set u (some (.int (i : Nat)))).set v (some x)) (upd H' p (.tup [.int (i : Nat), x])))
    (hd : ∀ σ' H', Pv xs.length σ' H' → D.nx σ' H') : zEnum K (gTup K 2 (gCons (gName u) (gCons (gName v) gNil))) tb D σ [.ref a] H := by
  refine ⟨a, xs, rfl, h, fun i m σ H => m = xs.length - i ∧ i ≤ xs.length ∧ Pv i σ H, ⟨_, rfl, Nat.zero_le _, h0⟩, ?_⟩
  rintro i m σ' H' ⟨rfl, hi, p⟩
  have q1 := hk i σ' H' p
  by_cases hlt : i < xs.length
  · refine .inr ⟨⟨xs, xs[i], q1, by simp [hlt]⟩, Pv (i + 1), fun σ2 H2 p' => ⟨_, by omega, rfl, by omega, p'⟩, ?_⟩
    rintro x H2 ⟨T, x1, rfl, hT, rfl, f1⟩
    exact ⟨T, [.int (i : Nat), x1], rfl, .inl (.inl upd_same), rfl, .int (i : Nat), [x1], rfl, x1, [], rfl, rfl, hs i x1 T σ' H' (f1 xs q1) p hT⟩
  · have e : i = xs.length := by omega
    subst e
    exact .inl ⟨⟨xs, q1, by omega⟩, hd σ' H' p⟩
theorem z_lce {u v : Nat} (h : SqL K H a xs) (Pv : Addr → Nat → Hp → Prop) (h0 : ∀ D, H D = none → Pv D 0 (upd H D (.lst []))) (hk : ∀ D i H', H D = none → Pv D i H' → SqL K H' a xs)
    (hs : ∀ D i x p H', H D = none → xs[i]? = some x → Pv D i H' → H' p = none → wipe (((wipe σ vs).set u (some (.int (i : Nat)))).set v (some x)) vs = wipe σ vs ∧ tt (((wipe σ vs).set u (some (.int (i : Nat)))).set v (some x)) (upd H' p (.tup [.int (i : Nat), x])) fun b H3 =>
      if b = true then te (((wipe σ vs).set u (some (.int (i : Nat)))).set v (some x)) H3 fun y H4 => ∃ acc, H4 D = some (.lst acc) ∧ acc.length < sizeLine ∧ Pv D (i + 1) (upd H4 D (.lst (acc ++ [y]))) else Pv D (i + 1) H3)
    (hd : ∀ D H', H D = none → Pv D xs.length H' → Q (.ref D) H') : zLcE K (gTup K 2 (gCons (gName u) (gCons (gName v) gNil))) tt te vs σ [.ref a] H Q := by
  refine ⟨a, xs, rfl, h, fun D hD => ⟨fun i m H => m = xs.length - i ∧ i ≤ xs.length ∧ Pv D i H, ⟨_, rfl, Nat.zero_le _, h0 D hD⟩, ?_⟩⟩
  rintro i m H' ⟨rfl, hi, p⟩
  have q1 := hk D i H' hD p
  by_cases hlt : i < xs.length
  · refine .inr ⟨⟨xs, xs[i], q1, by simp [hlt]⟩, Pv D (i + 1), fun H2 p' => ⟨_, by omega, rfl, by omega, p'⟩, ?_⟩
    rintro x H2 ⟨T, x1, rfl, hT, rfl, f1⟩
    exact ⟨T, [.int (i : Nat), x1], rfl, .inl (.inl upd_same), rfl, .int (i : Nat), [x1], rfl, x1, [], rfl, rfl, hs D i x1 T H' hD (f1 xs q1) p hT⟩
  · have e : i = xs.length := by omega
    subst e
    exact .inl ⟨⟨xs, q1, by omega⟩, hd D H' hD p⟩
end
/-! ### attributes -/
def zFld (K : PySem.W.Frag) (f : Str) (x : V) (H : Hp) (Q : VK) : Prop := ∃ a C dx fs v, x = .ref a ∧ H a = some (.ins C dx fs) ∧ Cls K C ∧ NoAttr K C f ∧ fs.lookup f = some v ∧ Q v H
def zSet (K : PySem.W.Frag) (f : Str) (y x : V) (H : Hp) (N : Hp → Prop) : Prop := ∃ a C dx fs, x = .ref a ∧ H a = some (.ins C dx fs) ∧ Cls K C ∧ NoAttr K C f ∧ fs.length < 1000 ∧ N (upd H a (.ins C dx (putF f y fs)))
theorem z_fldt {K : PySem.W.Frag} {σ : L2.St} {H : Hp} {ta : TE} {f : Str} {Q : VK} (k : ta σ H fun x H1 => zFld K f x H1 Q) : tFld K ta f σ H Q := k
theorem z_sett {K : PySem.W.Frag} {σ : L2.St} {H : Hp} {ta tv : TE} {f : Str} {D : Ends} (k : tv σ H fun y H1 => ta σ H1 fun x H2 => zSet K f y x H2 fun H3 => D.nx σ H3) : sFld K ta tv f D σ H := k
/-! ### slices -/
def uSl (K : PySem.W.Frag) : V → Option Int → Option Int → Hp → VK → Prop := fun x lo hi H Q => match x with
  | .ref a => rSlL K (.ref a) lo hi H Q ∨ rSlA K (.ref a) lo hi H Q
  | .str z => z.length ≤ sizeLine ∧ Q (.str (cutS z lo hi)) H
  | _ => False
theorem sl_uSl {X : Cx} : SlR X (uSl X.K) := by
  intro pins s σ H x v vl vu lo hi sl Q I rx hs pl pu h
  cases x <;> first | exact h.elim | skip
  · exact sl_str pins s σ H _ v vl vu lo hi sl Q I rx hs pl pu ⟨_, rfl, h.1, h.2⟩
  · exact (sl_list.or sl_tupA) pins s σ H _ v vl vu lo hi sl Q I rx hs pl pu h
section
variable {K : PySem.W.Frag} {σ : L2.St} {H : Hp} {Q : VK} {te : TE} {tl th : TO} {p : Addr} {xs : List V} {lo hi : Option Int} {QO : Option Int → Hp → Prop}
theorem z_sl {r : V → Option Int → Option Int → Hp → VK → Prop} (k : te σ H fun x H1 => tl σ H1 fun l H2 => th σ H2 fun u H3 => r x l u H3 Q) : tSl r te tl th σ H Q := k
theorem z_part (k : te σ H fun x H1 => ∃ i, x = .int i ∧ QO (some i) H1) : tPart te σ H QO := k
theorem z_noPart (k : QO none H) : tNoPart σ H QO := k
theorem z_parti {P : Int → Prop} {a : Int} (k : P a) : ∃ i, V.int a = .int i ∧ P i := ⟨a, rfl, k⟩
theorem z_slL (h : SqL K H p xs) (k : ∀ l, H l = none → Q (.ref l) (upd H l (.lst (cutV xs lo hi)))) : uSl K (.ref p) lo hi H Q := .inl ⟨p, xs, rfl, h, k⟩
theorem z_slS {x : Str} (h : x.length ≤ 100000) (k : Q (.str (cutS x lo hi)) H) : uSl K (.str x) lo hi H Q := ⟨Nat.le_trans h (by decide), k⟩
end
theorem cutV_ints (ns : List Int) (lo hi : Option Int) : cutV (ns.map V.int) lo hi = ((ns.drop (HT.sIx ns.length 0 lo)).take (HT.sIx ns.length ns.length hi - HT.sIx ns.length 0 lo)).map V.int := by
  unfold cutV; rw [List.length_map, List.map_take, List.map_drop]
theorem cutV_refs (ps : List Addr) (lo hi : Option Int) : cutV (ps.map V.ref) lo hi = ((ps.drop (HT.sIx ps.length 0 lo)).take (HT.sIx ps.length ps.length hi - HT.sIx ps.length 0 lo)).map V.ref := by
  unfold cutV; rw [List.length_map, List.map_take, List.map_drop]
theorem sIx_pos {n d : Nat} {i : Int} (h : 0 ≤ i) : HT.sIx n d (some i) = min i.toNat n := by
  show (if i < 0 then (i + (n : Int)).toNat else min i.toNat n) = _
  rw [if_neg (by omega)]
/-! ### comprehensions over zip -/
def zLcZ (K : PySem.W.Frag) (g : TG) (tt : TT) (te : TE) (vs : List Nat) (σ : L2.St) (as : List V) (H1 : Hp) (Q : VK) : Prop := ∃ a b xs ys, as = [.ref a, .ref b] ∧ ((SqL K H1 a xs ∧ SqL K H1 b ys ∧ ∀ D, H1 D = none → ∃ W : Nat → Nat → Hp → Prop, (∃ m, W 0 m (upd H1 D (.lst []))) ∧ ∀ i m H, W i m H →
  ((Itz K a b).stop i H ∧ Q (.ref D) H) ∨ ((Itz K a b).go i H ∧ ∃ Nx : Hp → Prop, (∀ H', Nx H' → ∃ m', m' < m ∧ W (i + 1) m' H') ∧ ∀ x H', (Itz K a b).yld i H x H' → g x (wipe σ vs) H' fun σ2 H2 => wipe σ2 vs = wipe σ vs ∧ tt σ2 H2 fun b H3 =>
    if b = true then te σ2 H3 fun y H4 => ∃ acc, H4 D = some (.lst acc) ∧ acc.length < sizeLine ∧ Nx (upd H4 D (.lst (acc ++ [y]))) else Nx H3)) ∨
  (SqT K H1 a xs ∧ SqT K H1 b ys ∧ ∀ D, H1 D = none → ∃ W : Nat → Nat → Hp → Prop, (∃ m, W 0 m (upd H1 D (.lst []))) ∧ ∀ i m H, W i m H →
  ((RZ.ItzT K a b).stop i H ∧ Q (.ref D) H) ∨ ((RZ.ItzT K a b).go i H ∧ ∃ Nx : Hp → Prop, (∀ H', Nx H' → ∃ m', m' < m ∧ W (i + 1) m' H') ∧ ∀ x H', (RZ.ItzT K a b).yld i H x H' → g x (wipe σ vs) H' fun σ2 H2 => wipe σ2 vs = wipe σ vs ∧ tt σ2 H2 fun b H3 =>
    if b = true then te σ2 H3 fun y H4 => ∃ acc, H4 D = some (.lst acc) ∧ acc.length < sizeLine ∧ Nx (upd H4 D (.lst (acc ++ [y]))) else Nx H3)))
section
variable {K : PySem.W.Frag} {σ : L2.St} {H : Hp} {ta : TA} {g : TG} {a b : Addr} {xs ys : List V} {tt : TT} {te : TE} {vs : List Nat} {Q : VK}
theorem z_lcZ (k : ta σ H fun as H1 => zLcZ K g tt te vs σ as H1 Q) : tLc (RZ.iZipA K ta) g tt te vs σ H Q := k
theorem z_lcz {u v : Nat} (h : (SqL K H a xs ∧ SqL K H b ys) ∨ (SqT K H a xs ∧ SqT K H b ys)) (Pv : Addr → Nat → Hp → Prop) (h0 : ∀ D, H D = none → Pv D 0 (upd H D (.lst []))) (hk : ∀ D i H', H D = none → Pv D i H' → Same H H')
    (hs : ∀ D i x y p H', H D = none → xs[i]? = some x → ys[i]? = some y → Pv D i H' → H' p = none → wipe (((wipe σ vs).set u (some x)).set v (some y)) vs = wipe σ vs ∧ tt (((wipe σ vs).set u (some x)).set v (some y)) (upd H' p (.tup [x, y])) fun b H3 =>
      if b = true then te (((wipe σ vs).set u (some x)).set v (some y)) H3 fun z H4 => ∃ acc, H4 D = some (.lst acc) ∧ acc.length < sizeLine ∧ Pv D (i + 1) (upd H4 D (.lst (acc ++ [z]))) else Pv D (i + 1) H3)
    (hd : ∀ D H', H D = none → Pv D (min xs.length ys.length) H' → Q (.ref D) H') : zLcZ K (gTup K 2 (gCons (gName u) (gCons (gName v) gNil))) tt te vs σ [.ref a, .ref b] H Q := by
  refine ⟨a, b, xs, ys, rfl, ?_⟩
  rcases h with ⟨h1, h2⟩ | ⟨h1, h2⟩
  · refine .inl ⟨h1, h2, fun D hD => ⟨fun i m H => m = min xs.length ys.length - i ∧ i ≤ min xs.length ys.length ∧ Pv D i H, ⟨_, rfl, Nat.zero_le _, h0 D hD⟩, ?_⟩⟩
    rintro i m H' ⟨rfl, hi, p⟩
    have s := hk D i H' hD p
    have q1 := Same.seq s h1
    have q2 := Same.seq s h2
    by_cases hlt : i < min xs.length ys.length
    · have l1 : i < xs.length := by omega
      have l2 : i < ys.length := by omega
      refine .inr ⟨⟨xs, ys, xs[i], ys[i], q1, q2, by simp [l1], by simp [l2]⟩, Pv D (i + 1), fun H2 p' => ⟨_, by omega, rfl, by omega, p'⟩, ?_⟩
      rintro x H2 ⟨T, x1, y1, rfl, hT, rfl, f1, f2⟩
      exact ⟨T, [x1, y1], rfl, .inl (.inl upd_same), rfl, x1, [y1], rfl, y1, [], rfl, rfl, hs D i x1 y1 T H' hD (f1 xs q1) (f2 ys q2) p hT⟩
    · have e : i = min xs.length ys.length := by omega
      subst e
      exact .inl ⟨⟨xs, ys, q1, q2, by omega⟩, hd D H' hD p⟩
  · refine .inr ⟨h1, h2, fun D hD => ⟨fun i m H => m = min xs.length ys.length - i ∧ i ≤ min xs.length ys.length ∧ Pv D i H, ⟨_, rfl, Nat.zero_le _, h0 D hD⟩, ?_⟩⟩
    rintro i m H' ⟨rfl, hi, p⟩
    have s := hk D i H' hD p
    have q1 := Same.sqT s h1
    have q2 := Same.sqT s h2
    by_cases hlt : i < min xs.length ys.length
    · have l1 : i < xs.length := by omega
      have l2 : i < ys.length := by omega
      refine .inr ⟨⟨xs, ys, xs[i], ys[i], q1, q2, by simp [l1], by simp [l2]⟩, Pv D (i + 1), fun H2 p' => ⟨_, by omega, rfl, by omega, p'⟩, ?_⟩
      rintro x H2 ⟨T, x1, y1, rfl, hT, rfl, f1, f2⟩
      exact ⟨T, [x1, y1], rfl, .inl (.inl upd_same), rfl, x1, [y1], rfl, y1, [], rfl, rfl, hs D i x1 y1 T H' hD (f1 xs q1) (f2 ys q2) p hT⟩
    · have e : i = min xs.length ys.length := by omega
      subst e
      exact .inl ⟨⟨xs, ys, q1, q2, by omega⟩, hd D H' hD p⟩
end
/-! ### constants of the module -/
theorem z_gint {X : Cx} {x : Str} {i : Int} {pos : Pos} (hm : ∃ t, X.mg x = some (.int i t)) (hg : Gl X x) (hd : (x == ("__debug__" : Str)) = false := by decide) : PE X (.Name x pos) (tC (.int i)) := by
  obtain ⟨t, hm⟩ := hm
  exact pe_glob hg hm ⟨t, rfl⟩ hd
theorem z_gstr {X : Cx} {x y : Str} {pos : Pos} (hm : ∃ t, X.mg x = some (.str y t)) (hg : Gl X x) (hd : (x == ("__debug__" : Str)) = false := by decide) : PE X (.Name x pos) (tC (.str y)) := by
  obtain ⟨t, hm⟩ := hm
  exact pe_glob hg hm ⟨t, rfl⟩ hd

local macro_rules | `(tactic| walk_at "ne") => `(tactic| with_reducible first | assumption | exact Ne.symm (by assumption) | exact ne_n (by assumption) (by assumption) | exact Ne.symm (ne_n (by assumption) (by assumption)))
local macro_rules | `(tactic| walk_at "df") => `(tactic| (intro zz; cases zz; done))
local macro_rules | `(tactic| walk_at "ns") => `(tactic| first | exact NotSt.ints | exact NotSt.refs | exact NotSt.strs | (intro _ _ _ zz; cases zz; done))
local macro_rules | `(tactic| walk_at "lk") => `(tactic| with_reducible first | assumption | ((show upd _ _ _ _ = _); first | exact upd_same | exact lk_new (by assumption) (by walk_at "lk") | ((fail_if_success refine lk_new (by assumption) ?_); first | exact lk_ne (by walk_at "ne") (by walk_at "lk") | exact lk_df (by walk_at "lk") (by walk_at "lk") (by with_unfolding_all walk_at "df"))) | exact ExD.lk (by assumption) (by walk_at "lk") (by with_unfolding_all walk_at "ns") | exact Same.lk (by assumption) (by walk_at "lk"))
local macro_rules | `(tactic| walk_at "sqL") => `(tactic| with_reducible first | assumption | exact SqL.of (by walk_at "lk") | ((show SqL _ (upd _ _ _) _ _); first | exact sqL_new (by assumption) (by walk_at "sqL") | exact sqL_ne (by walk_at "ne") (by walk_at "sqL")) | exact Same.seq (by assumption) (by walk_at "sqL"))
local macro_rules | `(tactic| walk_at "sqT") => `(tactic| with_reducible first | assumption | exact SqT.of (by walk_at "lk") | ((show SqT _ (upd _ _ _) _ _); first | exact sqT_new (by assumption) (by walk_at "sqT") | exact sqT_ne (by walk_at "ne") (by walk_at "sqT")))
local macro_rules | `(tactic| walk_at "sq") => `(tactic| first | exact Or.inl (by walk_at "sqL") | exact Or.inr (by walk_at "sqT"))
local macro_rules | `(tactic| walk_at "mulok") => `(tactic| first | exact mul1 (by omega) | exact mul2 (by omega))
local macro_rules | `(tactic| walk_at "few") => `(tactic| (simp only [List.length_cons, List.length_nil]; with_unfolding_all decide))
local macro_rules | `(tactic| walk_at "zo") => `(tactic| (with_reducible first
  | refine z_add ?_ | refine z_sub ?_ | refine z_lt ?_ | refine z_le ?_ | refine z_gt ?_ | refine z_ge ?_ | refine z_eq ?_ | refine z_ne ?_ | refine z_neg ?_ | refine z_int ?_ | refine z_max ?_ | refine z_min ?_ | refine z_abs ?_
  | refine z_eqS ?_ | refine z_neS ?_ | refine z_eqIS ?_ | refine z_eqSI ?_ | refine z_neIS ?_ | refine z_neSI ?_ | refine z_eqB ?_ | refine z_neB ?_ | refine z_eqN ?_ | refine z_neN ?_ | refine z_is ?_ | refine z_isNot ?_ | refine z_isB ?_ | refine z_isNotB ?_ | refine z_isbb ?_ | refine z_isbi ?_
  | refine z_ltS ?_ | refine z_leS ?_ | refine z_gtS ?_ | refine z_geS ?_ | refine z_isii ?_ | refine z_isib ?_))
local macro_rules | `(tactic| walk_at "zp") => `(tactic| with_reducible first
  | ((show uMul _ _ _ _); refine z_mul (by walk_at "mulok") ?_)
  | ((show uDiv _ _ _ _); refine z_div (by exact div1 (by omega)) ?_)
  | ((show uMod _ _ _ _); refine z_mod (by omega) ?_)
  | ((show uPow _ _ _ _); refine z_pow (by with_unfolding_all exact ⟨by decide, by decide, by decide⟩) ?_; (simp only [Int.reduceToNat, Int.reducePow]))
  | ((show uIx _ _ _ _ _); refine z_ix (by walk_at "sq") (by first | with_unfolding_all rfl | assumption) ?_)
  | ((show uLen _ _ _ _); refine z_len (by walk_at "sq") ?_)
  | ((show uList _ _ _ _); refine z_list (by walk_at "sq") ?_; intro _ _)
  | ((show uSl _ (V.ref _) _ _ _ _); refine z_slL (by walk_at "sqL") ?_; intro _ _)
  | ((show rSetL _ _ _ _ _); refine z_setL (by walk_at "lk") (by with_unfolding_all rfl) ?_)
  | ((show tyV _ "list" _ _ ∧ _); refine ⟨tyL (by walk_at "lk"), ?_⟩)
  | ((show uIsi _ [_, V.ty "list"] _ _); refine z_isll (by walk_at "lk") ?_)
  | ((show uIsi _ [_, V.ty "tuple"] _ _); refine z_istt (by walk_at "lk") ?_)
  | ((show zNewL _ _ _); refine z_newL (by walk_at "few") ?_; intro _ _)
  | ((show zNewT _ _ _); refine z_newT (by walk_at "few") ?_; intro _ _))
local macro_rules | `(tactic| walk_at "ze") => `(tactic| (with_reducible first
  | ((show tVar _ _ _ _); refine z_var (by with_unfolding_all rfl) ?_) | refine z_c ?_ | refine z_op ?_ | refine z_cons ?_ | refine z_nil ?_ | refine z_cal ?_ | refine z_cb ?_ | refine z_test ?_ | refine z_bl ?_ | refine z_un ?_
  | refine z_tru ?_ | refine z_trub ?_ | refine z_trui ?_ | refine z_and ?_ | refine z_or ?_ | refine z_not ?_ | refine z_andV ?_ | refine z_orV ?_ | refine z_notV ?_ | refine z_bl1 ?_ | refine z_if ?_ | refine z_lst ?_ | refine z_tup ?_ | refine z_chain ?_))
local macro_rules | `(tactic| walk_at "zs") => `(tactic| (with_reducible first
  | refine z_seq ?_ | refine z_asg ?_ | refine z_ifS ?_ | refine z_ret ?_ | refine z_drop ?_ | refine z_next ?_ | refine z_brk ?_ | refine z_cont ?_ | refine z_retN ?_ | refine z_iteT ?_ | refine z_iteF ?_ | refine z_for1 ?_ | refine z_for2 ?_ | refine z_asgS ?_ | refine z_bm ?_ | refine z_forSq ?_ | refine z_forZ ?_ | refine z_forE ?_ | refine z_lcE ?_ | refine z_lcZ ?_ | refine z_fldt ?_ | refine z_sett ?_ | refine z_lcSq ?_ | refine z_lc1 ?_ | refine z_yes ?_ | refine z_gName ?_ | refine z_sl ?_ | refine z_part ?_ | refine z_noPart ?_ | refine z_parti ?_))
local macro_rules | `(tactic| walk_at "z") => `(tactic| first | walk_at "ze" | walk_at "zo" | walk_at "zs" | walk_at "zp" | (dsimp only [List.set]))
local macro_rules | `(tactic| walk_at "zz") => `(tactic| repeat (walk_at "z"))
local macro_rules | `(tactic| walk_at "zd") => `(tactic| ((with_reducible show ite _ _ _); first | refine z_iteT' (by decide +kernel) ?_ | refine z_iteF' (by decide +kernel) ?_))
local macro_rules | `(tactic| walk_at "zx") => `(tactic| repeat (first | walk_at "z" | walk_at "zd"))

/-! ### the draws of a law -/
-- _law_row(_law_script, _law_k): slots 0:_law_script 1:_law_k 2:_law_cell 3:_law_a 4:_law_b 5:_law_c
def T_law_row (K : PySem.W.Frag) : TS :=
    (tSeq (tAsg (tC (.int 0)) (gName 2))
    (tCut (tIfS (tTest (tOp (uLt K) (tVar 1) (tCB (uLen K) (tCons (tVar 0) tNil)))) (tAsg (tOp (uIx K) (tVar 0) (tVar 1)) (gName 2)) tNext)
    (tCut (tIfS (tTest (tOp (uLt K) (tVar 2) (tC (.int 0)))) (tAsg (tOp uSub (tOp uMul (tUn uNeg (tC (.int 2))) (tVar 2)) (tC (.int 1))) (gName 2)) tNext)
    (tCut (tIfS (tTest (tOp (uLt K) (tVar 2) (tOp uPow (tC (.int 10)) (tC (.int 9))))) (tSeq (tAsg (tOp uMod (tCB uInt (tCons (tOp (uAdd K) (tOp (uAdd K) (tOp uMul (tVar 2) (tC (.int 48271))) (tOp uMul (tVar 1) (tC (.int 69621)))) (tC (.int 11))) tNil)) (tC (.int 2147483647))) (gName 3))
    (tSeq (tAsg (tOp uMod (tCB uInt (tCons (tOp (uAdd K) (tOp (uAdd K) (tOp (uAdd K) (tOp uMul (tVar 3) (tC (.int 16807))) (tOp uMul (tVar 2) (tC (.int 7)))) (tVar 1)) (tC (.int 5))) tNil)) (tC (.int 2147483629))) (gName 4))
    (tSeq (tAsg (tOp uMod (tCB uInt (tCons (tOp (uAdd K) (tOp (uAdd K) (tOp uMul (tVar 4) (tC (.int 39373))) (tOp uMul (tVar 3) (tVar 4))) (tC (.int 3))) tNil)) (tC (.int 2147483587))) (gName 5))
    (tAsg (tOp (uAdd K) (tOp (uAdd K) (tVar 3) (tOp uMul (tVar 4) (tC (.int 2147483647)))) (tOp uMul (tVar 5) (tOp uPow (tC (.int 2147483647)) (tC (.int 2))))) (gName 2))))) tNext)
    (tRet (tVar 2))))))
def sp_law_row (K : PySem.W.Frag) : Sp := fun vs H Q _ => ∃ (L : Addr) (ns : List Int) (k : Int), vs = [.ref L, .int k] ∧ SqL K H L (ns.map V.int) ∧ 0 ≤ k ∧ ∀ c : Int, 0 ≤ c → Q (.int c) H
theorem r_law_row {K : PySem.W.Frag} {L : Addr} {ns : List Int} {k : Int} {H : Hp} {D : Ends} (hL : SqL K H L (ns.map V.int)) (hk : 0 ≤ k) (q : ∀ c : Int, 0 ≤ c → D.rt (.int c) H) :
    T_law_row K D [some (.ref L), some (.int k), none, none, none, none] H := by
  unfold T_law_row
  walk_at "zz"
  refine z_cut (fun σ H' => H = H' ∧ ∃ c : Int, σ = [some (.ref L), some (.int k), some (.int c), none, none, none]) ?_ ?_
  · walk_at "zz"
    refine z_itD (fun c => ?_) (fun c => ?_)
    · walk_at "zz"
      refine z_ix (.inl hL) (at_int hk (by simpa using c)) ?_
      walk_at "zz"
      exact ⟨rfl, _, rfl⟩
    · walk_at "zz"
      exact ⟨rfl, _, rfl⟩
  rintro σ H' ⟨rfl, c, rfl⟩
  refine z_cut (fun σ H' => H = H' ∧ ∃ c : Int, 0 ≤ c ∧ σ = [some (.ref L), some (.int k), some (.int c), none, none, none]) ?_ ?_
  · walk_at "zz"
    refine z_itD (fun c => ?_) (fun c => ?_)
    · walk_at "zz"
      exact ⟨rfl, _, by omega, rfl⟩
    · walk_at "zz"
      exact ⟨rfl, _, by omega, rfl⟩
  rintro σ H' ⟨rfl, c, hc, rfl⟩
  refine z_cut (fun σ H' => H = H' ∧ ∃ (c : Int) (x y z : Option V), 0 ≤ c ∧ σ = [some (.ref L), some (.int k), some (.int c), x, y, z]) ?_ ?_
  · walk_at "zz"
    refine z_itD (fun h => ?_) (fun h => ?_)
    · walk_at "zz"
      refine ⟨rfl, _, _, _, _, ?_, rfl⟩
      omega
    · walk_at "zz"
      exact ⟨rfl, _, _, _, _, hc, rfl⟩
  rintro σ H' ⟨rfl, c, x, y, z, hc, rfl⟩
  walk_at "zz"
  exact q c hc
-- _law_next(_law_state, _law_many): slots 0:_law_state 1:_law_many 2:_law_drawn
def T_law_next (K : PySem.W.Frag) : TS :=
    (tCut (tIfS (tTest (tOp (uLt K) (tOp (uIx K) (tVar 0) (tC (.int 2))) (tVar 1))) (tSeq (tAsg (tCal (sp_law_row K) (tCons (tOp (uIx K) (tVar 0) (tC (.int 0))) (tCons (tOp (uIx K) (tVar 0) (tC (.int 1))) tNil))) (gSub (tVar 0) (tC (.int 2)) rSetL))
    (tAsg (tOp (uAdd K) (tOp (uIx K) (tVar 0) (tC (.int 1))) (tC (.int 1))) (gSub (tVar 0) (tC (.int 1)) rSetL))) tNext)
    (tSeq (tAsg (tOp uMod (tCB uInt (tCons (tOp (uIx K) (tVar 0) (tC (.int 2))) tNil)) (tVar 1)) (gName 2))
    (tSeq (tAsg (tOp uDiv (tOp (uIx K) (tVar 0) (tC (.int 2))) (tVar 1)) (gSub (tVar 0) (tC (.int 2)) rSetL))
    (tRet (tVar 2)))))
/-- the state of the draws stands at st, the script's copy at L -/
structure Draw (H : Hp) (st L : Addr) : Prop where
  ex : ∃ (ns : List Int) (k a : Int), H st = some (.lst [.ref L, .int k, .int a]) ∧ H L = some (.lst (ns.map V.int)) ∧ L ≠ st ∧ 0 ≤ k ∧ 0 ≤ a
theorem Draw.ne {H : Hp} {st L p : Addr} (h : H p = none) (d : Draw H st L) : p ≠ st := by
  obtain ⟨_, _, _, e, _⟩ := d.ex
  exact (ne_of_none e h).symm
theorem Draw.neL {H : Hp} {st L p : Addr} (h : H p = none) (d : Draw H st L) : p ≠ L := by
  obtain ⟨_, _, _, _, e, _⟩ := d.ex
  exact (ne_of_none e h).symm
theorem Draw.new {H : Hp} {st L p : Addr} {o : HO} (h : H p = none) (d : Draw H st L) : Draw (upd H p o) st L := by
  obtain ⟨ns, k, a, e, s, n, hk, ha⟩ := d.ex
  exact ⟨ns, k, a, lk_ne (ne_of_none e h) e, lk_ne (ne_of_none s h) s, n, hk, ha⟩
theorem Draw.same {H H' : Hp} {st L : Addr} (x : Same H H') (d : Draw H st L) : Draw H' st L := by
  obtain ⟨ns, k, a, e, s, n, hk, ha⟩ := d.ex
  exact ⟨ns, k, a, x _ _ e, x _ _ s, n, hk, ha⟩
theorem Draw.put {H : Hp} {st L p : Addr} {o : HO} (h1 : p ≠ st) (h2 : p ≠ L) (d : Draw H st L) : Draw (upd H p o) st L := by
  obtain ⟨ns, k, a, e, s, n, hk, ha⟩ := d.ex
  exact ⟨ns, k, a, lk_ne h1.symm e, lk_ne h2.symm s, n, hk, ha⟩
theorem Draw.back {H H' : Hp} {st L p : Addr} (d : Draw H' st L) (x : ExD H H') (h : H' p = none) (hs : ∀ L k a, H p = some (.lst [.ref L, .int k, .int a]) → p = st) : H p = none := by
  cases e : H p with
  | none => rfl
  | some o =>
    by_cases n : NotSt o
    · have := x p o n e
      rw [h] at this; cases this
    · exfalso
      apply n
      rintro L k a rfl
      exact Draw.ne h d (hs L k a e)
def sp_law_next (K : PySem.W.Frag) : Sp := fun vs H Q _ => ∃ (st L : Addr) (m : Int), vs = [.ref st, .int m] ∧ Draw H st L ∧ 0 < m ∧ m < 1000000000000000000 ∧ ∀ (r : Int) (H' : Hp), 0 ≤ r → r < m → Draw H' st L → ExD H H' → Q (.int r) H'
theorem law_row_c {K : PySem.W.Frag} {L : Addr} {k : Int} {H : Hp} {Q : VK} {E : XK} {ns : List Int} (hL : SqL K H L (ns.map V.int)) (hk : 0 ≤ k) (q : ∀ c : Int, 0 ≤ c → Q (.int c) H) : sp_law_row K [.ref L, .int k] H Q E := ⟨L, ns, k, rfl, hL, hk, q⟩
theorem r_law_next {K : PySem.W.Frag} {st L : Addr} {m : Int} {H : Hp} {D : Ends} (d : Draw H st L) (h0 : 0 < m) (h1 : m < 1000000000000000000) (q : ∀ (r : Int) (H' : Hp), 0 ≤ r → r < m → Draw H' st L → ExD H H' → D.rt (.int r) H') :
    T_law_next K D [some (.ref st), some (.int m), none] H := by
  obtain ⟨ns, k, a, e, sL, n, hk, ha⟩ := d.ex
  have s : SqL K H L (ns.map V.int) := SqL.of sL
  unfold T_law_next
  refine z_cut (fun σ H' => ∃ k a : Int, H' = upd H st (.lst [.ref L, .int k, .int a]) ∧ 0 ≤ k ∧ 0 ≤ a ∧ σ = [some (.ref st), some (.int m), none]) ?_ ?_
  · walk_at "zz"
    refine z_itD (fun h => ?_) (fun h => ?_)
    · walk_at "zz"
      refine law_row_c s hk fun c hc => ?_
      walk_at "zz"
      refine ⟨k + 1, c, ?_, by omega, hc, rfl⟩
      simp only [upd_upd]; rfl
    · walk_at "zz"
      exact ⟨k, a, (upd_self e).symm, hk, ha, rfl⟩
  rintro σ H' ⟨k, a, rfl, hk, ha, rfl⟩
  walk_at "zz"
  refine q _ _ (Int.emod_nonneg _ (by omega)) (Int.emod_lt_of_pos _ h0) ⟨ns, k, a / m, upd_same, ?_, n, hk, Int.ediv_nonneg ha (by omega)⟩ ?_
  · exact lk_ne n (lk_ne n sL)
  · exact ExD.st e (ExD.st e (ExD.refl H))
theorem law_next_c {K : PySem.W.Frag} {st L : Addr} {m : Int} {H : Hp} {Q : VK} {E : XK} (d : Draw H st L) (h0 : 0 < m) (h1 : m < 1000000000000000000) (q : ∀ (r : Int) (H' : Hp), 0 ≤ r → r < m → Draw H' st L → ExD H H' → Q (.int r) H') : sp_law_next K [.ref st, .int m] H Q E :=
  ⟨st, L, m, rfl, d, h0, h1, q⟩
-- _law_is_integer(_law_actual): slots 0:_law_actual
def T_law_is_integer (K : PySem.W.Frag) : TS :=
    (tRet (tAndV (tCB (uIsi K) (tCons (tVar 0) (tCons (tC (.ty "int")) tNil))) (tNotV (tCB (uIsi K) (tCons (tVar 0) (tCons (tC (.ty "bool")) tNil))))))
def sp_law_is_integer (K : PySem.W.Frag) : Sp := fun vs H Q _ => ∃ i : Int, vs = [.int i] ∧ Q (.bl true) H
theorem r_law_is_integer {K : PySem.W.Frag} {i : Int} {H : Hp} {D : Ends} (q : D.rt (.bl true) H) : T_law_is_integer K D [some (.int i)] H := by
  unfold T_law_is_integer
  walk_at "zz"
  exact q
theorem Draw.start {H : Hp} {l p : Addr} {ns : List Int} (h1 : H l = none) (h2 : upd H l (.lst (ns.map V.int)) p = none) : Draw (upd (upd H l (.lst (ns.map V.int))) p (.lst [.ref l, .int 0, .int 0])) p l := by
  have ne : l ≠ p := ne_of_none (H := upd H l (.lst (ns.map V.int))) upd_same h2
  exact ⟨ns, 0, 0, upd_same, lk_ne ne upd_same, ne, by decide, by decide⟩
def sp_law (K : PySem.W.Frag) : Sp := fun vs H Q _ => ∃ (a : Addr) (ns : List Int), vs = [.ref a] ∧ SqL K H a (ns.map V.int) ∧ ns.length ≤ 63 ∧ ∀ H', Q (.bl true) H'
abbrev N_law_row : List Str := ["_law_script", "_law_k", "_law_cell", "_law_a", "_law_b", "_law_c"]
theorem w_law_row {K : PySem.W.Frag} : Wd (T_law_row K) N_law_row 2 (sp_law_row K) := fun vs H Q E h => by
  obtain ⟨L, ns, k, rfl, h1, h2, q⟩ := h
  exact ⟨rfl, r_law_row h1 h2 q⟩
abbrev N_law_next : List Str := ["_law_state", "_law_many", "_law_drawn"]
theorem w_law_next {K : PySem.W.Frag} : Wd (T_law_next K) N_law_next 2 (sp_law_next K) := fun vs H Q E h => by
  obtain ⟨st, L, m, rfl, d, h0, h1, q⟩ := h
  exact ⟨rfl, r_law_next d h0 h1 q⟩
abbrev N_law_is_integer : List Str := ["_law_actual"]
theorem w_law_is_integer {K : PySem.W.Frag} : Wd (T_law_is_integer K) N_law_is_integer 1 (sp_law_is_integer K) := fun vs H Q E h => by
  obtain ⟨i, rfl, q⟩ := h
  exact ⟨rfl, r_law_is_integer q⟩

local macro_rules | `(tactic| walk_at "dr") => `(tactic| with_reducible first | assumption | ((show Draw (upd _ _ _) _ _); first | exact Draw.new (by assumption) (by walk_at "dr") | exact Draw.put (by walk_at "ne") (by walk_at "ne") (by walk_at "dr")) | exact Draw.same (by assumption) (by walk_at "dr"))
local macro_rules | `(tactic| walk_at "nx") => `(tactic| (refine law_next_c (by walk_at "dr") (by first | decide | omega) (by first | decide | omega) ?_))

/-! enumerate over a list or a tuple -/
section
open PySem.AutoSeq1 (wpAny_loadPart')
abbrev itT (l : Addr) : Obj := { cls := .type "tuple_iterator", data := .fields #[.ref l, .int 0 0] }
abbrev enT (h : Heap) : Obj := { cls := .type "enumerate", data := .fields #[.none, .bool false, .ref h.objs.size, rawInt 0, .none, .none] }
theorem new_enumT (l : Addr) (us : Array Value) (n : Nat) (dd : Option Addr) (ss : Array (Option Value)) :
    Meets (Builtin.«enumerate.__new__» ⟨[.type "enumerate", .ref l], []⟩) (fun _ R s => s.heap.get? l = some { cls := .type "tuple", dict := dd, data := .seq us n, slots := ss } ∧
      R (.ok (.ret (.ref (s.heap.push (itT l)).objs.size))) { s with heap := (s.heap.push (itT l)).push (enT s.heap) }) :=
  .of_wp fun prog w A R s h => by
    obtain ⟨hp, gg, dr, tk, os⟩ := s
    obtain ⟨hl, q⟩ := h
    have se := sub_enumerate
    have isT : Heap.IsTuple (Shared.heap ⟨hp, gg, dr, tk, os⟩) l us := ⟨_, hl, rfl, n, rfl⟩
    wp_walk using wpAny_loadPart' hl
    refine wpAny_stack_any fun st => wpAny_pure ?_
    split
    · rename_i cc _ _ _ _ _
      cases (cc == Value.type "enumerate") <;> (wp_walk using wpAny_loadPart' hl, wpAny_pyIter_tuple isT; exact ⟨_, rfl, q⟩)
    · wp_walk using wpAny_loadPart' hl, wpAny_pyIter_tuple isT
      exact ⟨_, rfl, q⟩
theorem call_enumT {prog : Program} {w : World} {A : Around} {E : Value → Shared → Prop} {s : Shared} {l : Addr} {us : Array Value} {Q : Value → Shared → Prop} (hT : s.heap.IsTuple l us)
    (h : ∀ h', IsEnum h' (s.heap.objs.size + 1) s.heap.objs.size 0 .none → h'.IsTupleIter s.heap.objs.size l 0 → (∀ b o, s.heap.get? b = some o → h'.get? b = some o) → Q (.ref (s.heap.objs.size + 1)) { s with heap := h' }) :
    wpAny (model prog w) A (call (.type "enumerate") [.ref l]) Q E s := by
  obtain ⟨⟨cc, dd, dt, ss⟩, hl, h1, n, h2⟩ := hT
  simp only at h1 h2
  subst h1 h2
  have zz : (s.heap.push (itT l)).objs.size = s.heap.objs.size + 1 := Heap.size_push ..
  have en : IsEnum ((s.heap.push (itT l)).push (enT s.heap)) (s.heap.objs.size + 1) s.heap.objs.size 0 .none := by
    have g := Heap.get?_push_size (s.heap.push (itT l)) (o := enT s.heap) rfl
    rw [zz] at g; exact g
  refine callType_new F.called_enumerate (by decide) (F.typeCall_enumerate_1 _) (F.newCall_enumerate_1 _) (fun obj => F.args_object_init_2 obj _) F.entry_enumerate_new (new_enumT l us n dd ss) ⟨hl, ?_⟩
  show _ ∧ _
  rw [zz]
  exact ⟨⟨_, en, rfl⟩, h _ en ⟨_, Heap.get?_push_of_some _ (Heap.get?_push_size _ rfl), rfl, rfl⟩ fun b o x => Heap.get?_push_of_some _ (Heap.get?_push_of_some _ x)⟩
end
/-- the tuple at a as it stands at each turn, place and item in a new pair -/
def IteT (K : PySem.W.Frag) (a : Addr) : It :=
  ⟨fun i H => ∃ (xs : List V) (x : V), SqT K H a xs ∧ xs[i]? = some x, fun i H v H' => ∃ T x, v = .ref T ∧ H T = none ∧ H' = upd H T (.tup [.int (i : Nat), x]) ∧ ∀ xs, SqT K H a xs → xs[i]? = some x, fun i H => ∃ xs : List V, SqT K H a xs ∧ xs.length ≤ i⟩
theorem turn_enumT {P : Program} {w : World} {K : PySem.W.Frag} {elts : List Expr} {kk : Nat} {tpos : Pos} (a e it : Addr) :
    Turn P w K (.Tuple elts kk tpos) (IteT K a) [e, it] e (fun i h => (∃ old, IsEnum h e it ((i : Nat) : Int) old) ∧ h.IsTupleIter it a i ∧ e ≠ it) where
  mem := by simp
  obj := fun i h st b hb => by
    obtain ⟨⟨old, en⟩, ⟨o, ho, _, dt⟩, _⟩ := st
    rcases (show b = e ∨ b = it by simpa using hb) with z | z
    · rw [z]; exact ⟨_, en, fun v q => nomatch q⟩
    · rw [z]; exact ⟨o, ho, fun v q => by rw [dt] at q; cases q⟩
  keep := fun i h h' st k => let ⟨⟨old, en⟩, ⟨o, ho, hi⟩, ne⟩ := st; ⟨⟨old, k e (by simp) _ en⟩, ⟨o, k it (by simp) _ ho, hi⟩, ne⟩
  item := by
    intro X hP hw hK hc i pins s σ H E I hf st hg
    subst hP hw hK
    obtain ⟨⟨old, en⟩, hit, ne⟩ := st
    obtain ⟨xs, x, hq, hx⟩ := hg
    obtain ⟨us, rv, p, _⟩ := I.tuple hq
    obtain ⟨u, hu, ru⟩ := rv.get hx
    have p2 : s.heap.IsTuple a us.toArray := p
    have lt1 : e < s.heap.objs.size := Heap.lt_size en
    have lt2 : it < s.heap.objs.size := by obtain ⟨_, q, _⟩ := hit; exact Heap.lt_size q
    have ne2 : a ≠ it := fun z => by
      obtain ⟨o1, g1, c1, _⟩ := hit
      obtain ⟨o2, g2, c2, _⟩ := id p2
      rw [z, g1] at g2; cases g2; rw [c1] at c2; exact absurd c2 (by decide)
    have ne3 : e ≠ a := fun z => by
      obtain ⟨o2, g2, c2, _⟩ := id p2
      rw [← z, show s.heap.get? e = _ from en] at g2; cases g2; exact absurd (show Value.type "enumerate" = Value.type "tuple" from c2) (by decide)
    have hlt : i < us.toArray.size := by
      obtain ⟨l, _⟩ := List.getElem?_eq_some_iff.mp hu
      simpa using l
    refine wpAny_pyNext_enum_itemD (Draws.tuple (A := X.A.in1) (I.ok.hd hc) it a ne2 us.toArray) en ⟨hit, p2⟩ hlt ne (by simp [ne, ne3]) fun y h' tk hy out st2 hT _ hk => ?_
    have ey : y = u := by
      have z : us.toArray[i]? = some y := hy
      rw [show us.toArray[i]? = us[i]? by simp] at z
      rw [hu] at z; exact (Option.some.inj z).symm
    subst ey
    refine ⟨_, rfl, wpAny_letOwnedTupleGo_enum (s := { s with heap := h', toks := tk + 1 }) out fun h'' en2 sb => ?_⟩
    have hT2 : h''.get? s.heap.objs.size = some { cls := .type "tuple", data := .seq #[.int i tk, y] } := (sb.2 _ (Nat.ne_of_gt lt1)).trans hT
    have nw : ObjOk X.prog X.w (upd H s.heap.objs.size (.tup [.int (i : Nat), x])) h'' s.heap.objs.size (.tup [.int (i : Nat), x]) :=
      ⟨by show 2 ≤ sizeLine; decide, [.int i tk, y], .cons ⟨_, rfl⟩ (.cons ru .nil), ⟨_, hT2, rfl, _, rfl⟩⟩
    have J : Inv X pins σ (upd H s.heap.objs.size (.tup [.int (i : Nat), x])) { s with heap := h'', toks := tk + 1 } :=
      I.turnedNew (ch := [e, it]) (fun b ob hb q => (sb.2 b (fun z => hb (by simp [z]))).trans (hk b ob (fun z => hb (by simp [z])) (fun z => hb (by simp [z])) q)) hf (Nat.le_refl _) nw
    have hit2 : h''.IsTupleIter it a (i + 1) := by
      obtain ⟨o, g, r⟩ := st2.1
      exact ⟨o, (sb.2 it (Ne.symm ne)).trans g, r⟩
    refine ⟨.ref s.heap.objs.size, _, J, rfl, ⟨_, x, rfl, I.hok.fresh (Nat.le_refl _), rfl, fun ys hy => by rw [I.tuple_inj hy hq]; exact hx⟩, ⟨⟨y, ?_⟩, hit2, ne⟩, fun b hb => ?_⟩
    · rw [show ((i + 1 : Nat) : Int) = (i : Int) + 1 by omega]; exact en2
    · have lt : b < s.heap.objs.size := by
        rcases (show b = e ∨ b = it by simpa using hb) with z | z
        · rw [z]; exact lt1
        · rw [z]; exact lt2
      rw [upd_ne (Nat.ne_of_lt lt)]
      exact (hf b hb).1
  done := by
    intro X hP hw hK hc i pins s σ H E I hf st hg
    subst hP hw hK
    obtain ⟨⟨old, en⟩, hit, ne⟩ := st
    obtain ⟨xs, hq, hx⟩ := hg
    obtain ⟨us, rv, p, _⟩ := I.tuple hq
    have p2 : s.heap.IsTuple a us.toArray := p
    have len := rv.length
    obtain ⟨f0, f1, f2, f3, f4, f5⟩ := hf it (by simp)
    have hT : s.TypeIs (.ref e) "enumerate" := ⟨_, en, rfl⟩
    unfold pyNext
    refine wpAny_bind (wpAny_attempt (wpAny_callSpecial?_slot (name := Str.ofString "__next__") hT F.slot_enumerate_next (wpAny_call_entry F.slot_enumerate_next hT F.entry_enumerate_next ?_ (F.args_enumerate_next_1 _))))
    show wpAny _ _ (field (.ref e) 2 >>= _) _ _ _
    refine wpAny_bind (wpAny_field en rfl (x := .ref it) rfl ?_)
    refine wpAny_bind (wpAny_nextOf_tuple_end (I.ok.hd hc) hit p2 (by simp; omega) fun h' x eb hx' => ?_)
    obtain ⟨o, ho, co⟩ := hx'
    refine wpAny_bind (wpAny_isInstance (T := "StopIteration") (b := true) ⟨o, ho, co⟩ isSubtype_stop ?_)
    exact wpAny_pure ⟨rfl, I.turned (t' := s.toks) (fun b o hb q => eb b o hb q) f0 f1 f3 f4 f5⟩
  self := fun A i s Q E st h => let ⟨⟨_, en⟩, _⟩ := st; wpAny_pyIter_enum en h
def iEnumA (K : PySem.W.Frag) (ta : TA) : TI := fun σ H R => ta σ H fun vs H1 => ∃ a xs, vs = [.ref a] ∧ ((SqL K H1 a xs ∧ R (Ite K a) H1) ∨ (SqT K H1 a xs ∧ R (IteT K a) H1))
theorem pi_enumA {X : Cx} {e : Expr} {ta : TA} {p pos tpos : Pos} {elts : List Expr} {kk : Nat} (hg : Gl X "enumerate") (hm : X.mg "enumerate" = none) (ha : PA X [e] ta) (hs : starEach [e] X.env = [(false, eval e X.env)] := by rfl) :
    PI X (.Tuple elts kk tpos) (.Call (.Name "enumerate" p) [e] [] pos) (iEnumA X.K ta) := by
  refine ⟨fun pins s σ H R I h => PyProof.Rows.Call_ (ld_blt I hg hm PyProof.Rows.boot_enumerate (PyProof.Rows.callWith_type1 (thn (ha.run pos pins s σ H _ I h) fun us s1 ⟨vs, H1, I1, r1, q1⟩ => ?_) hs rfl))⟩
  obtain ⟨a, xs, ex, q1⟩ := q1
  subst ex
  obtain ⟨u, eu, r⟩ := Vals.one r1
  subst eu
  cases r
  have fr : ∀ b, b ∈ [s1.heap.objs.size + 1, s1.heap.objs.size] → FpOk X pins H1 b := fun b hb => by
    have le : s1.heap.objs.size ≤ b := by
      rcases (show b = s1.heap.objs.size + 1 ∨ b = s1.heap.objs.size by simpa using hb) with z | z <;> omega
    exact I1.fpOk le (I1.hok.fresh le)
  rcases q1 with ⟨hq, q⟩ | ⟨hq, q⟩
  · obtain ⟨us, rv, p, _⟩ := I1.list hq
    refine call_enumerate_list p.isList fun h' en hit _ hk => wpAny_pyIter_enum en ?_
    exact ⟨s1.heap.objs.size + 1, [s1.heap.objs.size + 1, s1.heap.objs.size], _, _, H1, rfl, I1.kept (t' := s1.toks) hk, turn_enum a (s1.heap.objs.size + 1) s1.heap.objs.size, ⟨⟨.none, en⟩, hit, Nat.succ_ne_self _⟩, fr, q⟩
  · obtain ⟨us, rv, p, _⟩ := I1.tuple hq
    refine call_enumT (show s1.heap.IsTuple a us.toArray from p) fun h' en hit hk => wpAny_pyIter_enum en ?_
    exact ⟨s1.heap.objs.size + 1, [s1.heap.objs.size + 1, s1.heap.objs.size], _, _, H1, rfl, I1.kept (t' := s1.toks) hk, turn_enumT a (s1.heap.objs.size + 1) s1.heap.objs.size, ⟨⟨.none, en⟩, hit, Nat.succ_ne_self _⟩, fr, q⟩
/-! the steps -/
def zEnumA (K : PySem.W.Frag) (g : TG) (tb : TS) (D : Ends) (σ : L2.St) (vs : List V) (H1 : Hp) : Prop := ∃ a xs, vs = [.ref a] ∧ ((SqL K H1 a xs ∧ ∃ W : Nat → Nat → L2.St → Hp → Prop, (∃ m, W 0 m σ H1) ∧ ∀ i m σ H, W i m σ H →
  ((Ite K a).stop i H ∧ D.nx σ H) ∨ ((Ite K a).go i H ∧ ∃ N : L2.St → Hp → Prop, (∀ σ' H', N σ' H' → ∃ m', m' < m ∧ W (i + 1) m' σ' H') ∧ ∀ x H', (Ite K a).yld i H x H' → g x σ H' fun σ2 H2 => tb { D with nx := N, ct := N, bk := D.nx } σ2 H2)) ∨
  (SqT K H1 a xs ∧ ∃ W : Nat → Nat → L2.St → Hp → Prop, (∃ m, W 0 m σ H1) ∧ ∀ i m σ H, W i m σ H →
  ((IteT K a).stop i H ∧ D.nx σ H) ∨ ((IteT K a).go i H ∧ ∃ N : L2.St → Hp → Prop, (∀ σ' H', N σ' H' → ∃ m', m' < m ∧ W (i + 1) m' σ' H') ∧ ∀ x H', (IteT K a).yld i H x H' → g x σ H' fun σ2 H2 => tb { D with nx := N, ct := N, bk := D.nx } σ2 H2)))
section
variable {K : PySem.W.Frag} {σ : L2.St} {H : Hp} {D : Ends} {ta : TA} {g : TG} {tb : TS} {a : Addr} {xs : List V}
theorem z_forEA (k : ta σ H fun vs H1 => zEnumA K g tb D σ vs H1) : tFor (iEnumA K ta) g tb D σ H := k
theorem z_enumA {u v : Nat} (h : SqL K H a xs ∨ SqT K H a xs) (Pv : Nat → L2.St → Hp → Prop) (h0 : Pv 0 σ H) (hk : ∀ i σ' H', Pv i σ' H' → Same H H')
    (hs : ∀ i x p σ' H', xs[i]? = some x → Pv i σ' H' → H' p = none → tb { D with nx := Pv (i + 1), ct := Pv (i + 1), bk := D.nx } ((σ'.set u (some (.int (i : Nat)))).set v (some x)) (upd H' p (.tup [.int (i : Nat), x])))
    (hd : ∀ σ' H', Pv xs.length σ' H' → D.nx σ' H') : zEnumA K (gTup K 2 (gCons (gName u) (gCons (gName v) gNil))) tb D σ [.ref a] H := by
  refine ⟨a, xs, rfl, ?_⟩
  rcases h with h | h
  · refine .inl ⟨h, fun i m σ H => m = xs.length - i ∧ i ≤ xs.length ∧ Pv i σ H, ⟨_, rfl, Nat.zero_le _, h0⟩, ?_⟩
    rintro i m σ' H' ⟨rfl, hi, p⟩
    have q1 := Same.seq (hk i σ' H' p) h
    by_cases hlt : i < xs.length
    · refine .inr ⟨⟨xs, xs[i], q1, by simp [hlt]⟩, Pv (i + 1), fun σ2 H2 p' => ⟨_, by omega, rfl, by omega, p'⟩, ?_⟩
      rintro x H2 ⟨T, x1, rfl, hT, rfl, f1⟩
      exact ⟨T, [.int (i : Nat), x1], rfl, .inl (.inl upd_same), rfl, .int (i : Nat), [x1], rfl, x1, [], rfl, rfl, hs i x1 T σ' H' (f1 xs q1) p hT⟩
    · have e : i = xs.length := by omega
      subst e
      exact .inl ⟨⟨xs, q1, by omega⟩, hd σ' H' p⟩
  · refine .inr ⟨h, fun i m σ H => m = xs.length - i ∧ i ≤ xs.length ∧ Pv i σ H, ⟨_, rfl, Nat.zero_le _, h0⟩, ?_⟩
    rintro i m σ' H' ⟨rfl, hi, p⟩
    have q1 := Same.sqT (hk i σ' H' p) h
    by_cases hlt : i < xs.length
    · refine .inr ⟨⟨xs, xs[i], q1, by simp [hlt]⟩, Pv (i + 1), fun σ2 H2 p' => ⟨_, by omega, rfl, by omega, p'⟩, ?_⟩
      rintro x H2 ⟨T, x1, rfl, hT, rfl, f1⟩
      exact ⟨T, [.int (i : Nat), x1], rfl, .inl (.inl upd_same), rfl, .int (i : Nat), [x1], rfl, x1, [], rfl, rfl, hs i x1 T σ' H' (f1 xs q1) p hT⟩
    · have e : i = xs.length := by omega
      subst e
      exact .inl ⟨⟨xs, q1, by omega⟩, hd σ' H' p⟩
end

/-! len(set(xs)) of numbers that may repeat -/
/-- the different ones, in the order in which they come -/
def ddZ (acc : List Int) : List Int → List Int
  | [] => acc
  | x :: xs => ddZ (if acc.any (· == x) then acc else acc ++ [x]) xs
theorem ddZ_snoc (x : Int) : ∀ (xs acc : List Int), ddZ acc (xs ++ [x]) = if (ddZ acc xs).any (· == x) then ddZ acc xs else ddZ acc xs ++ [x]
  | [], acc => rfl
  | y :: ys, acc => ddZ_snoc x ys _
theorem firstMet_ddZ (ns : List Int) : ∀ i, i ≤ ns.length → PyProof.Rows.firstMet (fun i => ns.getD i 0) i = ddZ [] (ns.take i)
  | 0, _ => rfl
  | i + 1, h => by
    have e : ns.take (i + 1) = ns.take i ++ [ns.getD i 0] := by
      rw [List.take_succ, List.getD_eq_getElem?_getD, List.getElem?_eq_getElem (show i < ns.length by omega)]; rfl
    rw [PyProof.Rows.firstMet_succ, firstMet_ddZ ns i (by omega), e, ddZ_snoc]
    rfl
theorem ddZ_le : ∀ (xs acc : List Int), (ddZ acc xs).length ≤ acc.length + xs.length
  | [], acc => Nat.le_refl _
  | x :: xs, acc => by
    have := ddZ_le xs (if acc.any (· == x) then acc else acc ++ [x])
    show (ddZ _ xs).length ≤ _
    split at this <;> rename_i h
    · rw [if_pos h]; simp; omega
    · rw [if_neg h]; simp at this ⊢; omega
theorem ddZ_eq : ∀ (xs acc : List Int), (ddZ acc xs).length = acc.length + xs.length ↔ xs.Nodup ∧ ∀ x ∈ xs, x ∉ acc
  | [], acc => by simp [ddZ]
  | x :: xs, acc => by
    show (ddZ _ xs).length = _ ↔ _
    by_cases h : acc.any (· == x) = true
    · rw [if_pos h]
      have := ddZ_le xs acc
      have hx : x ∈ acc := by
        obtain ⟨y, hy, e⟩ := List.any_eq_true.mp h
        rw [← eq_of_beq e]; exact hy
      constructor
      · intro z; simp at z; omega
      · intro z; exact absurd hx (z.2 x (List.mem_cons_self ..))
    · rw [if_neg h]
      have ih := ddZ_eq xs (acc ++ [x])
      have hx : x ∉ acc := fun hx => h (List.any_eq_true.mpr ⟨x, hx, beq_self_eq_true x⟩)
      rw [show acc.length + (x :: xs).length = (acc ++ [x]).length + xs.length by simp; omega, ih, List.nodup_cons]
      constructor
      · rintro ⟨h1, h2⟩
        refine ⟨⟨fun m => ?_, h1⟩, fun y hy => ?_⟩
        · exact h2 x m (by simp)
        · rcases List.mem_cons.mp hy with rfl | hy
          · exact hx
          · exact fun m => h2 y hy (by simp [m])
      · rintro ⟨⟨h1, h2⟩, h3⟩
        refine ⟨h2, fun y hy m => ?_⟩
        rcases List.mem_append.mp m with m | m
        · exact h3 y (List.mem_cons_of_mem _ hy) m
        · rw [List.mem_singleton.mp m] at hy; exact h1 hy
def setN (ns : List Int) : Nat := (ddZ [] ns).length
theorem setN_le (ns : List Int) : setN ns ≤ ns.length := by have := ddZ_le ns []; simpa [setN] using this
theorem setN_eq (ns : List Int) : setN ns = ns.length ↔ ns.Nodup := by
  have := ddZ_eq ns []
  simp only [List.length_nil, Nat.zero_add, List.not_mem_nil, not_false_eq_true, implies_true, and_true] at this
  exact this
theorem setN_lt (ns : List Int) : setN ns < ns.length ↔ ¬ ns.Nodup := by
  have h1 := setN_le ns
  have h2 := setN_eq ns
  constructor
  · intro h z; rw [← h2] at z; omega
  · intro h
    rcases Nat.lt_or_ge (setN ns) ns.length with q | q
    · exact q
    · exact absurd (h2.mp (by omega)) h
def tLenSet (K : PySem.W.Frag) (ta : TE) : TE := fun σ H Q => ta σ H fun x H1 => ∃ (l : Addr) (ns : List Int), x = .ref l ∧ SqL K H1 l (ns.map V.int) ∧ ns.length ≤ 4000 ∧ Q (.int (setN ns : Nat)) H1
theorem z_lenSetE {X : Cx} {a : Expr} {ta : TE} {p p2 q pos : Pos} (hg : Gl X "len") (m_len : X.mg "len" = none) (hg2 : Gl X "set") (m_set : X.mg "set" = none) (ha : PE X a ta) (hc : X.calm = true := by rfl)
    (na : starEach [a] X.env = (false, eval a X.env) :: starEach [] X.env := by rfl) : PE X (.Call (.Name "len" p) [.Call (.Name "set" p2) [a] [] q] [] pos) (tLenSet X.K ta) := by
  refine ⟨fun pins s σ H Q I h => PyProof.Rows.Call_ (ld_blt I hg m_len boot_len (PyProof.Rows.callWith_builtin1 (PyProof.Rows.args_cons (PyProof.Rows.Call_ (ld_blt I hg2 m_set PyProof.Rows.boot_set (PyProof.Rows.callWith_type1 (PyProof.Rows.args_cons (thn (ha.run pins s σ H _ I h) fun v s1 ⟨x, H1, I1, r1, q1⟩ => PyProof.Rows.args_nil ?_) na) na rfl))) rfl) rfl rfl))⟩
  obtain ⟨l, ns, rfl, hq, hl, q1⟩ := q1
  cases r1
  obtain ⟨us, r, pl, _⟩ := I1.list hq
  have nn : us.toArray.size = ns.length := by rw [List.size_toArray, ← r.length, List.length_map]
  refine PySem.call_set_list (I1.ok.hd hc) pl.isList (by simpa using RZ.intsAre_vals r) (by rw [nn]; unfold scanBound; omega) fun h' tk hS hk => PyProof.Rows.args_nil ?_
  rw [nn, firstMet_ddZ ns ns.length (Nat.le_refl _), List.take_length] at hS
  obtain ⟨o, es, ep, t, ho, hex, hd, _, _, _, hf, hn⟩ := hS
  have lt : (ddZ [] ns).length ≤ 4000 := Nat.le_trans (setN_le ns) hl
  have J : Inv X pins σ H1 { s1 with heap := h', toks := tk } := I1.kept fun b o e => hk b o (Heap.lt_size e) e
  exact call_len_set ho hex hd hf (by rw [hn]; omega) ⟨.int (setN ns : Nat), H1, J.tok _, ⟨_, by rw [hn]; rfl⟩, q1⟩
theorem z_lenSet {K : PySem.W.Frag} {ta : TE} {σ : L2.St} {H : Hp} {Q : VK} (k : ta σ H fun x H1 => ∃ (l : Addr) (ns : List Int), x = .ref l ∧ SqL K H1 l (ns.map V.int) ∧ ns.length ≤ 4000 ∧ Q (.int (setN ns : Nat)) H1) : tLenSet K ta σ H Q := k

/-! own classes: what is known of each, by its name -/
/-- where the classes stand, and which there are -/
structure CEnv where
  cls : Str → Addr
  has : Str → Prop
/-- the package's classes below another one -/
def SUBE : List (Str × Str) := [("InvalidSchema", "SurenearError"), ("InvalidRecord", "SurenearError"), ("InvalidKey", "SurenearError"), ("InvalidFilter", "SurenearError"), ("InvalidQuery", "SurenearError"), ("InvalidRule", "SurenearError"), ("InvalidCode", "SurenearError")]
def SUBE2 : List (Str × Str) := [("InvalidOperation", "SurenearError"), ("InvalidSource", "SurenearError"), ("NoSuchMoment", "SurenearError"), ("NotPinned", "SurenearError"), ("NoSuchQuery", "SurenearError"), ("NotNow", "SurenearError"), ("NotUp", "SurenearError")]
def SUBP : List (Str × Str) := [("Norms", "Fact"), ("Parts", "Fact"), ("Cell", "Fact"), ("Box", "Fact"), ("Differ", "Fact"), ("Counts", "Fact"), ("Names", "Fact"), ("Range", "FieldFact"), ("Values", "FieldFact"), ("Range", "Fact"), ("Values", "Fact"), ("FieldFact", "Fact"),
  ("Every", "Condition"), ("Has", "Condition"), ("Compare", "Condition"), ("OneOf", "Condition"), ("Both", "Condition"), ("Either", "Condition"), ("Negation", "Condition")]
def SUB (x y : Str) : Bool := x == y || SUBP.contains (x, y) || SUBE.contains (x, y) || SUBE2.contains (x, y)
structure ClsOk (K : PySem.W.Frag) (c : CEnv) (x : Str) (gs : List Str) : Prop where
  cl : Cls K (c.cls x)
  na : ∀ f, gs.contains f = true → NoAttr K (c.cls x) f
  ha : PySem.W.findIn K (.ref (c.cls x)) "__class__" = some (some (.builtin "object.__class__"))
  hn : PySem.W.specialIn K (.builtin "object.__class__") "__get__" = some (some (.builtin "getset_descriptor.__get__"))
  htk : PySem.W.takesIn K (.builtin "object.__class__") = some true
  hm : PySem.W.mroIn K (c.cls x) (.type "object") = some true
  sub : ∀ y, c.has y → PySem.W.kitOne K (.ref (c.cls x)) (.ref (c.cls y)) = some (SUB x y)
  sb : ∀ y, c.has y → PySem.W.subIn K (.ref (c.cls x)) (.ref (c.cls y)) = some (SUB x y)
/-- the class named, as isinstance asks of it -/
structure IsF (K : PySem.W.Frag) (c : CEnv) (x : Str) : Prop where
  has : c.has x
  ki : ∀ n, ["int", "bool", "str", "NoneType", "tuple", "list", "dict"].contains n = true → PySem.W.kitOne K (.type n) (.ref (c.cls x)) = some false
  si : ∀ n, ["int", "bool", "str", "NoneType", "tuple", "list", "dict"].contains n = true → PySem.W.subIn K (.type n) (.ref (c.cls x)) = some false
/-- an instance stands at p -/
def InsAt (K : PySem.W.Frag) (c : CEnv) (H : Hp) (p : Addr) (x : Str) (fs : List (Str × V)) : Prop := ClsOk K c x (fs.map (·.1)) ∧ ∃ dx, H p = some (.ins (c.cls x) dx fs)
theorem InsAt.same {K : PySem.W.Frag} {c : CEnv} {H H' : Hp} {p : Addr} {x : Str} {fs : List (Str × V)} (s : Same H H') (i : InsAt K c H p x fs) : InsAt K c H' p x fs := ⟨i.1, i.2.choose, s _ _ i.2.choose_spec⟩
theorem NotSt.ins {C dx : Addr} {fs : List (Str × V)} : NotSt (.ins C dx fs) := fun _ _ _ z => by cases z
theorem NotSt.tup {xs : List V} : NotSt (.tup xs) := fun _ _ _ z => by cases z
theorem InsAt.exd {K : PySem.W.Frag} {c : CEnv} {H H' : Hp} {p : Addr} {x : Str} {fs : List (Str × V)} (s : ExD H H') (i : InsAt K c H p x fs) : InsAt K c H' p x fs := ⟨i.1, i.2.choose, s _ _ NotSt.ins i.2.choose_spec⟩
theorem InsAt.new {K : PySem.W.Frag} {c : CEnv} {H : Hp} {p r : Addr} {x : Str} {fs : List (Str × V)} {o : HO} (h : H r = none) (i : InsAt K c H p x fs) : InsAt K c (upd H r o) p x fs := ⟨i.1, i.2.choose, lk_new h i.2.choose_spec⟩
theorem InsAt.putL {K : PySem.W.Frag} {c : CEnv} {H : Hp} {p r : Addr} {x : Str} {fs : List (Str × V)} {xs : List V} {o : HO} (h : H r = some (.lst xs)) (i : InsAt K c H p x fs) : InsAt K c (upd H r o) p x fs := ⟨i.1, i.2.choose, lk_df i.2.choose_spec h (fun z => by cases z)⟩
/-! ### making, methods, properties, == -/
structure Mkr (P : Program) (w : World) (K : PySem.W.Frag) (mg : Str → Option Value) (base : Heap) (k : Nat) (C : Addr) (ps : List Str) (sp : Sp) : Prop where
  ex : ∃ (f : Addr) (fd : FuncData), Mk K C f ∧ Binds K fd ps [] ∧ FnOk P w K mg base CX0 k f fd ps sp
structure Mth (P : Program) (w : World) (K : PySem.W.Frag) (mg : Str → Option Value) (base : Heap) (k : Nat) (C : Addr) (m : Str) (ps : List Str) (sp : Sp) : Prop where
  ex : ∃ (f : Addr) (fd : FuncData), Meth K C m f ∧ Binds K fd ps [] ∧ FnOk P w K mg base CX0 k f fd ps sp
structure Prp (P : Program) (w : World) (K : PySem.W.Frag) (mg : Str → Option Value) (base : Heap) (k : Nat) (C : Addr) (m : Str) (ps : List Str) (sp : Sp) : Prop where
  ex : ∃ (p f : Addr) (fd : FuncData), PropOf K C m p f ∧ Binds K fd ps [] ∧ FnOk P w K mg base CX0 k f fd ps sp
structure ClsF (K : PySem.W.Frag) (mg : Str → Option Value) (c : CEnv) (x : Str) (gs : List Str) : Prop where
  ok : ClsOk K c x gs
  is : c.has x → IsF K c x
  mg : mg x = some (.ref (c.cls x))
def tMk (K : PySem.W.Frag) (c : CEnv) (x : Str) (gs : List Str) (sp : Sp) (t : TA) : TE := fun σ H Q => t σ H fun vs H1 => ClsOk K c x gs → ∀ p dx, H1 p = none → H1 dx = none → dx ≠ p →
  sp (.ref p :: vs) (upd (upd H1 dx (.own p)) p (.ins (c.cls x) dx [])) (fun v H2 => v = .non ∧ Q (.ref p) H2) E0
def tMt (c : CEnv) (x m : Str) (sp : Sp) (ta : TE) (t : TA) : TE := fun σ H Q => ta σ H fun v H1 => ∃ a dx fs, v = .ref a ∧ H1 a = some (.ins (c.cls x) dx fs) ∧ fs.lookup m = none ∧ t σ H1 fun vs H2 => sp (v :: vs) H2 Q E0
def tPr (c : CEnv) (x : Str) (sp : Sp) (ta : TE) : TE := fun σ H Q => ta σ H fun v H1 => ∃ a dx fs, v = .ref a ∧ H1 a = some (.ins (c.cls x) dx fs) ∧ sp [.ref a] H1 Q E0
def tCls (K : PySem.W.Frag) (c : CEnv) (x : Str) : TE := fun _ H Q => IsF K c x → Q (.ref (c.cls x)) H
/-- == of two instances of one class, by its own __eq__ -/
def uEqO (c : CEnv) (x : Str) (sp : Sp) : R2 := fun u v H Q => ∃ a b dx dy fs gs, u = .ref a ∧ v = .ref b ∧ H a = some (.ins (c.cls x) dx fs) ∧ H b = some (.ins (c.cls x) dy gs) ∧ sp [.ref a, .ref b] H (fun z H' => ∃ k, z = .bl k ∧ Q (.bl k) H') E0
section
variable {X : Cx} {c : CEnv} {k : Nat} {x m : Str} {ps gs : List Str} {sp : Sp} {p pos apos : Pos} {e o : Expr} {es : List Expr} {t : TA} {ta : TE}
theorem z_make (CF : ClsF X.K X.mg c x gs) (M : Mkr X.prog X.w X.K X.mg X.base k (c.cls x) ps sp) (hr : Room (k + 1) X.A) (hg : Gl X x) (ha : PA X (e :: es) t) (hdb : (x == ("__debug__" : Str)) = false := by decide)
    (he : starEach (e :: es) X.env = (false, eval e X.env) :: starEach es X.env := by rfl) (hpl : (backTo pos (starEach es X.env)).any (·.1) = false := by rfl) : PE X (.Call (.Name x p) (e :: es) [] pos) (tMk X.K c x gs sp t) := by
  obtain ⟨f, fd, hM, hb, F⟩ := M.ex
  have h := pe_make (E := E0) (dvs := []) (p := p) (pos := pos) hM F hr hg CF.mg hb .nil pass0 ha hdb he hpl
  refine ⟨fun pins s σ H Q I q => h.run pins s σ H Q I ?_⟩
  simp only [tMake, List.append_nil]
  have e : (t σ H fun vs H1 => ClsOk X.K c x gs → ∀ p dx, H1 p = none → H1 dx = none → dx ≠ p → sp (.ref p :: vs) (upd (upd H1 dx (.own p)) p (.ins (c.cls x) dx [])) (fun v H2 => v = .non ∧ Q (.ref p) H2) E0)
      = (t σ H fun vs H1 => ∀ p dx, H1 p = none → H1 dx = none → dx ≠ p → sp (.ref p :: vs) (upd (upd H1 dx (.own p)) p (.ins (c.cls x) dx [])) (fun v H2 => v = .non ∧ Q (.ref p) H2) E0) := by
    congr 1; funext vs H1; exact propext ⟨fun h => h CF.ok, fun h _ => h⟩
  rw [← e]; exact q
theorem z_meth {pl : Sem Bool} (he : PE X o ta) (CF : ClsF X.K X.mg c x gs) (M : Mth X.prog X.w X.K X.mg X.base k (c.cls x) m ps sp) (hr : Room k X.A) (ha : PA X (e :: es) t)
    (hst : starEach (e :: es) X.env = (false, eval e X.env) :: starEach es X.env := by rfl) (hpl : (backTo pos (starEach es X.env)).any (·.1) = false := by rfl)
    (ht : eval (.Call (.Attribute o m apos) (e :: es) [] pos) X.env = (do
      let ov ← eval o X.env
      standAt apos.atName
      let (f, first) ← holding [ov] (getMethod ov m pl)
      callWith pos f first (backTo pos (starEach (e :: es) X.env)) (backToKw pos (keywordEach [] X.env))) := by rfl) : PE X (.Call (.Attribute o m apos) (e :: es) [] pos) (tMt c x m sp ta t) := by
  obtain ⟨f, fd, hM, hb, F⟩ := M.ex
  have h := pe_meth (E := E0) (dvs := []) he CF.ok.cl hM F hr hb .nil pass0 ha hst hpl ht
  have e : tMeth (c.cls x) m sp [] E0 ta t = tMt c x m sp ta t := by
    funext σ H Q; simp only [tMeth, tMt, List.append_nil]
  rw [← e]; exact h
theorem z_meth0 {pl : Sem Bool} (he : PE X o ta) (CF : ClsF X.K X.mg c x gs) (M : Mth X.prog X.w X.K X.mg X.base k (c.cls x) m ps sp) (hr : Room k X.A)
    (ht : eval (.Call (.Attribute o m apos) [] [] pos) X.env = (do
      let ov ← eval o X.env
      standAt apos.atName
      let (f, first) ← holding [ov] (getMethod ov m pl)
      callWith pos f first (backTo pos (starEach [] X.env)) (backToKw pos (keywordEach [] X.env))) := by rfl) : PE X (.Call (.Attribute o m apos) [] [] pos) (tMt c x m sp ta tNil) := by
  obtain ⟨f, fd, hM, hb, F⟩ := M.ex
  have h := pe_meth0 (E := E0) (dvs := []) he CF.ok.cl hM F hr hb .nil pass0 ht
  refine ⟨fun pins s σ H Q I q => h.run pins s σ H Q I ?_⟩
  first
    | exact q
    | (simp only [List.append_nil] at *; exact q)
theorem z_prop (he : PE X e ta) (CF : ClsF X.K X.mg c x gs) (M : Prp X.prog X.w X.K X.mg X.base k (c.cls x) m ps sp) (hr : Room (k + 1) X.A) (hab : attributeBase e m X.env (eval e X.env) = eval e X.env) : PE X (.Attribute e m pos) (tPr c x sp ta) := by
  obtain ⟨q, f, fd, hM, hb, F⟩ := M.ex
  exact pe_prop (E := E0) (dvs := []) he CF.ok.cl hM F hr hb .nil pass0 hab
theorem z_cls (CF : ClsF X.K X.mg c x gs) (I' : IsF X.K c x) (hg : Gl X x) (hdb : (x == ("__debug__" : Str)) = false := by decide) : PE X (.Name x pos) (tCls X.K c x) :=
  ⟨fun _ _ _ H _ I h => ld_glob I hg CF.mg ⟨.ref (c.cls x), H, I, rfl, h I'⟩ hdb⟩
theorem op_eqO (CF : ClsF X.K X.mg c x gs) (M : Mth X.prog X.w X.K X.mg X.base k (c.cls x) "__eq__" ps sp) (hr : Room k X.A) : OpR X (compareOp .Eq) (uEqO c x sp) := by
  intro pins s σ H u v y z Q I rx ry hq
  obtain ⟨f, fd, hM, hb, F⟩ := M.ex
  obtain ⟨a, b, dx, dy, fs, hs, rfl, rfl, ha, hb', q⟩ := hq
  cases rx
  cases ry
  obtain ⟨mA, J, _⟩ := ins_get I.hok ha
  obtain ⟨mB, J', _⟩ := ins_get I.hok hb'
  obtain ⟨od, J, _⟩ := J.look
  obtain ⟨od', J', _⟩ := J'.look
  obtain ⟨m, hF⟩ := I.fr
  show wpAny (model X.prog X.w) X.A (richCompare .Eq (.ref a) (.ref b)) (EP X pins σ Q) X.xe s
  refine PySem.W.cmp_K (op := .Eq) (tb := .ref (c.cls x)) hr.units0 hF I.ok.mod.kin J J'.type (by simp [PySem.W.notFirst]) hM.at_ hM.fn ?_
  have r2 : Vals [V.ref a, V.ref b] [Value.ref a, Value.ref b] := .cons rfl (.cons rfl .nil)
  refine thn (run_fn (Q := fun z H' => ∃ k, z = .bl k ∧ Q (.bl k) H') (E := E0) (dvs := []) F hr hb .nil pass0 I r2 (by simpa using q)) fun w s' hw => ?_
  obtain ⟨zv, H', I', rz, hq⟩ := hw
  obtain ⟨kk, ez, q'⟩ := hq
  subst ez
  have rz2 : w = Value.bool kk := rz
  subst rz2
  exact ⟨.bl kk, H', I', rfl, q'⟩
end
/-- == of an instance and a tuple, by the instance's own __eq__ -/
def uEqT (K : PySem.W.Frag) (c : CEnv) (x : Str) (sp : Sp) : R2 := fun u v H Q => ∃ a b dx fs xs, u = .ref a ∧ v = .ref b ∧ H a = some (.ins (c.cls x) dx fs) ∧ SqT K H b xs ∧ sp [.ref a, .ref b] H (fun z H' => ∃ k, z = .bl k ∧ Q (.bl k) H') E0
section
variable {X : Cx} {c : CEnv} {k : Nat} {x : Str} {ps gs : List Str} {sp : Sp}
theorem op_eqT (CF : ClsF X.K X.mg c x gs) (IF : IsF X.K c x) (M : Mth X.prog X.w X.K X.mg X.base k (c.cls x) "__eq__" ps sp) (hr : Room k X.A) : OpR X (compareOp .Eq) (uEqT X.K c x sp) := by
  intro pins s σ H u v y z Q I rx ry hq
  obtain ⟨f, fd, hM, hb, F⟩ := M.ex
  obtain ⟨a, b, dx, fs, xs, rfl, rfl, ha, hb', q⟩ := hq
  cases rx
  cases ry
  obtain ⟨mA, J, _⟩ := ins_get I.hok ha
  obtain ⟨od, J, _⟩ := J.look
  obtain ⟨its, r, hT, _⟩ := I.tuple hb'
  have hT : s.heap.IsTuple b its.toArray := hT
  obtain ⟨oT, hoT, hcT, _⟩ := id hT
  have LT : PySem.W.Looks (model X.prog X.w) s.heap (typeOf (.ref b)) (.type "tuple") := fun A Q E s k q => wpAny_typeOf_ref (k _ _ hoT) (by rw [hcT]; exact q)
  obtain ⟨m, hF⟩ := I.fr
  show wpAny (model X.prog X.w) X.A (richCompare .Eq (.ref a) (.ref b)) (EP X pins σ Q) X.xe s
  have hn : PySem.W.notFirst X.K (c.cls x) (.type "tuple") = true := by
    unfold PySem.W.notFirst
    rw [IF.si "tuple" (by decide)]
    simp
  refine PySem.W.cmp_K (op := .Eq) (tb := .type "tuple") hr.units0 hF I.ok.mod.kin J LT hn hM.at_ hM.fn ?_
  have r2 : Vals [V.ref a, V.ref b] [Value.ref a, Value.ref b] := .cons rfl (.cons rfl .nil)
  refine thn (run_fn (Q := fun z H' => ∃ k, z = .bl k ∧ Q (.bl k) H') (E := E0) (dvs := []) F hr hb .nil pass0 I r2 (by simpa using q)) fun w s' hw => ?_
  obtain ⟨zv, H', I', rz, hq⟩ := hw
  obtain ⟨kk, ez, q'⟩ := hq
  subst ez
  have rz2 : w = Value.bool kk := rz
  subst rz2
  exact ⟨.bl kk, H', I', rfl, q'⟩
end
section
variable {K : PySem.W.Frag} {c : CEnv} {x f : Str} {gs : List Str} {H : Hp} {Q : VK} {p dx : Addr} {fs : List (Str × V)} {v : V} {σ : L2.St} {t : TA} {ta : TE} {sp : Sp} {m : Str}
theorem z_fld (ok : ClsOk K c x gs) (h : H p = some (.ins (c.cls x) dx fs)) (l : fs.lookup f = some v) (n : gs.contains f = true) (k : Q v H) : zFld K f (.ref p) H Q := ⟨p, _, dx, fs, v, rfl, h, ok.cl, ok.na f n, l, k⟩
theorem z_set {N : Hp → Prop} {y : V} (ok : ClsOk K c x gs) (h : H p = some (.ins (c.cls x) dx fs)) (n : gs.contains f = true) (l : fs.length < 1000) (k : N (upd H p (.ins (c.cls x) dx (putF f y fs)))) : zSet K f y (.ref p) H N := ⟨p, _, dx, fs, rfl, h, ok.cl, ok.na f n, l, k⟩
theorem z_mk (k : t σ H fun vs H1 => ClsOk K c x gs → ∀ p dx, H1 p = none → H1 dx = none → dx ≠ p → sp (.ref p :: vs) (upd (upd H1 dx (.own p)) p (.ins (c.cls x) dx [])) (fun v H2 => v = .non ∧ Q (.ref p) H2) E0) : tMk K c x gs sp t σ H Q := k
theorem z_mt (k : ta σ H fun v H1 => ∃ a dx fs, v = .ref a ∧ H1 a = some (.ins (c.cls x) dx fs) ∧ fs.lookup m = none ∧ t σ H1 fun vs H2 => sp (v :: vs) H2 Q E0) : tMt c x m sp ta t σ H Q := k
theorem z_pr (k : ta σ H fun v H1 => ∃ a dx fs, v = .ref a ∧ H1 a = some (.ins (c.cls x) dx fs) ∧ sp [.ref a] H1 Q E0) : tPr c x sp ta σ H Q := k
theorem z_clsv (k : IsF K c x → Q (.ref (c.cls x)) H) : tCls K c x σ H Q := k
theorem z_isIns {y : Str} (i : IsF K c y) (ok : ClsOk K c x gs) (h : H p = some (.ins (c.cls x) dx fs)) (k : Q (.bl (SUB x y)) H) : uIsi K [.ref p, .ref (c.cls y)] H Q :=
  z_isi (ClsV.own _) (TyX.base (TyOf.ins h ok.cl ok.ha ok.hn ok.htk ok.hm)) (ok.sub y i.has) k
end
theorem na_of {P : Str → Prop} {gs : List Str} (h : ∀ f ∈ gs, P f) : ∀ f, gs.contains f = true → P f := fun f hf => h f (by simpa using hf)
theorem ki_of {K : PySem.W.Frag} {C : Addr} (h : ∀ n ∈ ["int", "bool", "str", "NoneType", "tuple", "list", "dict"], PySem.W.kitOne K (.type n) (.ref C) = some false) : ∀ n, ["int", "bool", "str", "NoneType", "tuple", "list", "dict"].contains n = true → PySem.W.kitOne K (.type n) (.ref C) = some false := fun n hn => h n (by simpa using hn)
theorem si_of {K : PySem.W.Frag} {C : Addr} (h : ∀ n ∈ ["int", "bool", "str", "NoneType", "tuple", "list", "dict"], PySem.W.subIn K (.type n) (.ref C) = some false) : ∀ n, ["int", "bool", "str", "NoneType", "tuple", "list", "dict"].contains n = true → PySem.W.subIn K (.type n) (.ref C) = some false := fun n hn => h n (by simpa using hn)
theorem kit_own {K : PySem.W.Frag} {t : Value} {C : Addr} {b : Bool} (ic : PySem.W.isClsIn K C = true) (ty : PySem.W.typeIn K (.ref C) = some (.type "type")) (ss : PySem.W.subIn K (.ref C) (.ref C) = some true) (sb : PySem.W.subIn K t (.ref C) = some b) : PySem.W.kitOne K t (.ref C) = some b := by
  unfold PySem.W.kitOne
  split
  · rename_i h
    have e : t = .ref C := eq_of_beq h
    subst e
    rw [ss] at sb; exact sb
  · unfold PySem.W.kitCls
    have h1 : (PySem.W.clsIn K C).isSome = true := ic
    dsimp only
    rw [h1, ty]
    exact sb

local macro_rules | `(tactic| walk_at "z") => `(tactic| with_reducible first
  | ((show zFld _ _ _ _ _); refine z_fld (by assumption) (by walk_at "lk") (by with_unfolding_all rfl) (by with_unfolding_all rfl) ?_)
  | ((show zSet _ _ _ _ _ _); refine z_set (by assumption) (by walk_at "lk") (by with_unfolding_all rfl) (by with_unfolding_all exact of_decide_eq_true rfl) ?_)
  | (refine z_mk ?_) | (refine z_mt ?_) | (refine z_pr ?_) | (refine z_clsv ?_; intro _))

/-! ### lists place by place -/
inductive All2 {α β : Type} (R : α → β → Prop) : List α → List β → Prop
  | nil : All2 R [] []
  | cons {a : α} {b : β} {as : List α} {bs : List β} (h : R a b) (t : All2 R as bs) : All2 R (a :: as) (b :: bs)
section
variable {α β : Type} {R S : α → β → Prop} {as : List α} {bs : List β} {a : α} {b : β}
theorem All2.imp (f : ∀ a b, R a b → S a b) (h : All2 R as bs) : All2 S as bs := by
  induction h with
  | nil => exact .nil
  | cons h t ih => exact .cons (f _ _ h) ih
theorem All2.app (h : All2 R as bs) (e : R a b) : All2 R (as ++ [a]) (bs ++ [b]) := by
  induction h with
  | nil => exact .cons e .nil
  | cons h t ih => exact .cons h ih
theorem All2.len (h : All2 R as bs) : as.length = bs.length := by
  induction h with
  | nil => rfl
  | cons h t ih => simp [ih]
theorem All2.get (h : All2 R as bs) : ∀ {i : Nat} (hi : i < as.length) (hj : i < bs.length), R as[i] bs[i] := by
  induction h with
  | nil => intro i hi; cases hi
  | cons h t ih => intro i hi hj; cases i with
    | zero => exact h
    | succ i => exact ih (by simpa using hi) (by simpa using hj)
theorem All2.of {n : Nat} (ha : as.length = n) (hb : bs.length = n) (f : ∀ i (hi : i < as.length) (hj : i < bs.length), R as[i] bs[i]) : All2 R as bs := by
  induction as generalizing bs n with
  | nil => cases bs with
    | nil => exact .nil
    | cons b t => simp at ha hb; omega
  | cons a t ih => cases bs with
    | nil => simp at ha hb; omega
    | cons b u => exact .cons (f 0 (by simp) (by simp)) (ih (n := n - 1) (by simp at ha; omega) (by simp at hb; omega) fun i hi hj => f (i + 1) (by simpa using hi) (by simpa using hj))
end
theorem at_ref {ps : List Addr} {i : Int} (h0 : 0 ≤ i) (h1 : i < ps.length) : atI (ps.map V.ref) i = some (.ref (ps.getD i.toNat 0)) := by
  unfold atI
  rw [ix_at h0 (by simpa using h1)]
  have : i.toNat < ps.length := by omega
  simp [List.getD, this]
theorem map_ref {ps : List Addr} {i : Nat} {x : V} (h : (ps.map V.ref)[i]? = some x) : i < ps.length ∧ x = .ref (ps.getD i 0) := by
  rw [List.getElem?_map] at h
  cases e : ps[i]? with
  | none => rw [e] at h; cases h
  | some y =>
    rw [e] at h
    obtain ⟨l, _⟩ := List.getElem?_eq_some_iff.mp e
    exact ⟨l, by rw [List.getD_eq_getElem?_getD, e]; exact (Option.some.inj h).symm⟩
theorem ref_app {ps : List Addr} {q : Addr} : ps.map V.ref ++ [V.ref q] = (ps ++ [q]).map V.ref := by simp
section
variable {α β : Type} {R : α → β → Prop} {as : List α} {bs : List β} {a : α} {b : β}
theorem All2.atD (h : All2 R as bs) (d : α) (e : β) {i : Nat} (hi : i < bs.length) : R (as.getD i d) (bs.getD i e) := by
  have hj : i < as.length := by rw [All2.len h]; exact hi
  have q := All2.get h hj hi
  rw [List.getD_eq_getElem?_getD, List.getD_eq_getElem?_getD, List.getElem?_eq_getElem hi, List.getElem?_eq_getElem hj]
  exact q
theorem All2.take (h : All2 R as bs) : ∀ k : Nat, All2 R (as.take k) (bs.take k) := by
  induction h with
  | nil => intro k; rw [List.take_nil, List.take_nil]; exact .nil
  | cons h t ih => intro k; cases k with
    | zero => exact .nil
    | succ k => exact .cons h (ih k)
theorem All2.drop (h : All2 R as bs) : ∀ k : Nat, All2 R (as.drop k) (bs.drop k) := by
  induction h with
  | nil => intro k; rw [List.drop_nil, List.drop_nil]; exact .nil
  | cons h t ih => intro k; cases k with
    | zero => exact .cons h t
    | succ k => exact ih k
theorem All2.mem (h : All2 R as bs) (ha : a ∈ as) : ∃ b ∈ bs, R a b := by
  induction h with
  | nil => cases ha
  | cons h t ih =>
    rcases List.mem_cons.mp ha with rfl | ha
    · exact ⟨_, List.mem_cons_self .., h⟩
    · obtain ⟨b, hb, r⟩ := ih ha; exact ⟨b, List.mem_cons_of_mem _ hb, r⟩
end
theorem Same.put {H H' : Hp} {p : Addr} {o : HO} (h : H p = none) (x : Same H H') : Same H (upd H' p o) := fun a u e => lk_ne (ne_of_none e h) (x a u e)
theorem fresh_same {H H' : Hp} {p : Addr} (s : Same H H') (h : H' p = none) : H p = none := by
  cases e : H p with
  | none => rfl
  | some o => rw [s _ _ e] at h; cases h
theorem take_dS {α : Type} {l : List α} {i : Nat} (d : α) (h : i < l.length) : l.take (i + 1) = l.take i ++ [l.getD i d] := by
  rw [List.take_succ, List.getD_eq_getElem?_getD, List.getElem?_eq_getElem h]; rfl
theorem getD_mem' {α : Type} {l : List α} {i : Nat} (d : α) (h : i < l.length) : l.getD i d ∈ l := by
  rw [List.getD_eq_getElem?_getD, List.getElem?_eq_getElem h]; exact List.getElem_mem h

/-! what may be raised; keywords -/
/-- no way out -/
abbrev W0 : WX := fun _ _ _ _ => False
theorem passF {X : Cx} : ∀ σ, PassesAt (L2.CX X.prog X.w) X σ (WE W0 σ) := fun σ => passAt takes0 σ
theorem passW {X : Cx} {W : WX} (tk : Takes X W) : ∀ σ, PassesAt (L2.CX X.prog X.w) X σ (WE W σ) := fun σ => passAt tk σ
theorem pass00 {X : Cx} : ∀ σ, PassesAt CX0 X σ (WE W0 σ) := fun σ pins H s e s' I c => pass0 pins σ H s e s' I c
/-- a body that may raise keeps its promise -/
def WdX (T : WX → TS) (N : List Str) (n : Nat) (sp : Sp) : Prop := ∀ (vs : List V) (H : Hp) (Q : VK) (E : XK), sp vs H Q E → vs.length = n ∧ T (fun cls d _ H => E cls d H) { nx := fun _ H' => Q .non H', rt := Q } (start N vs) H
structure DfnX (P : Program) (w : World) (K : PySem.W.Frag) (mg : Str → Option Value) (base : Heap) (k : Nat) (x : Str) (ps : List Str) (sp : Sp) : Prop where
  ex : ∃ (f : Addr) (fd : FuncData), mg x = some (.ref f) ∧ PySem.W.keepIn K (.ref f) = true ∧ Binds K fd ps [] ∧ FnOk P w K mg base (L2.CX P w) k f fd ps sp
structure MkrX (P : Program) (w : World) (K : PySem.W.Frag) (mg : Str → Option Value) (base : Heap) (k : Nat) (C : Addr) (ps : List Str) (sp : Sp) : Prop where
  ex : ∃ (f : Addr) (fd : FuncData), Mk K C f ∧ Binds K fd ps [] ∧ FnOk P w K mg base (L2.CX P w) k f fd ps sp
structure MthX (P : Program) (w : World) (K : PySem.W.Frag) (mg : Str → Option Value) (base : Heap) (k : Nat) (C : Addr) (m : Str) (ps : List Str) (sp : Sp) : Prop where
  ex : ∃ (f : Addr) (fd : FuncData), Meth K C m f ∧ Binds K fd ps [] ∧ FnOk P w K mg base (L2.CX P w) k f fd ps sp
/-- a constant: a value, or the empty tuple -/
inductive Cst where
  | v (x : V)
  | e
def Cst.Is (K : PySem.W.Frag) : Cst → V → Prop
  | .v x, u => u = x
  | .e, u => ∃ T, u = .ref T ∧ ∀ H, SqT K H T []
/-- keyword-only values by places: true: given, false: lacking -/
def gSel (sel : List (Bool × Nat)) {α : Type} (vs mz zs : List α) : List α := vs ++ sel.filterMap fun z => if z.1 then zs[z.2]? else mz[z.2]?
theorem gSel_rel (sel : List (Bool × Nat)) {vs mz zs : List V} {us mv ws : List Value} (h1 : Vals vs us) (h2 : Vals mz mv) (h3 : Vals zs ws) : Vals (gSel sel vs mz zs) (gSel sel us mv ws) := by
  unfold gSel
  refine h1.append ?_
  have one : ∀ {xs : List V} {as : List Value} (i : Nat), Vals xs as → (xs[i]? = none ∧ as[i]? = none) ∨ ∃ x a, xs[i]? = some x ∧ as[i]? = some a ∧ RelV x a := by
    intro xs as i r
    cases e : xs[i]? with
    | none => exact .inl ⟨rfl, Vals.none_of r e⟩
    | some x => obtain ⟨a, ea, ra⟩ := Vals.get r e; exact .inr ⟨x, a, rfl, ea, ra⟩
  induction sel with
  | nil => exact .nil
  | cons z t ih =>
    obtain ⟨b, i⟩ := z
    cases b with
    | true =>
      rcases one i h3 with ⟨e1, e2⟩ | ⟨x, a, e1, e2, r⟩
      · simp only [List.filterMap_cons, if_pos, e1, e2]; exact ih
      · simp only [List.filterMap_cons, if_pos, e1, e2]; exact .cons r ih
    | false =>
      rcases one i h2 with ⟨e1, e2⟩ | ⟨x, a, e1, e2, r⟩
      · simp only [List.filterMap_cons, Bool.false_eq_true, if_false, e1, e2]; exact ih
      · simp only [List.filterMap_cons, Bool.false_eq_true, if_false, e1, e2]; exact .cons r ih
/-- making by n values and the keywords ks; ms: what is lacking -/
structure MkrK (CX : CXT) (P : Program) (w : World) (K : PySem.W.Frag) (mg : Str → Option Value) (base : Heap) (k : Nat) (C : Addr) (ps : List Str) (sp : Sp) (n : Nat) (ks : List Str) (ms : List Cst) (sel : List (Bool × Nat)) : Prop where
  ex : ∃ (f : Addr) (fd : FuncData) (g : List Value → List Value → List Value) (ds : List V), Mk K C f ∧ All2 (Cst.Is K) ms ds ∧ KBn K fd ps (n + 1) ks g (fun vs zs => gSel sel vs ds zs) ∧ FnOk P w K mg base CX k f fd ps sp
def tMkX (K : PySem.W.Frag) (c : CEnv) (x : Str) (gs : List Str) (sp : Sp) (W : WX) (t : TA) : TE := fun σ H Q => t σ H fun vs H1 => ClsOk K c x gs → ∀ p dx, H1 p = none → H1 dx = none → dx ≠ p →
  sp (.ref p :: vs) (upd (upd H1 dx (.own p)) p (.ins (c.cls x) dx [])) (fun v H2 => v = .non ∧ Q (.ref p) H2) (WE W σ)
def tMkK (K : PySem.W.Frag) (c : CEnv) (x : Str) (gs : List Str) (n m : Nat) (ms : List Cst) (sel : List (Bool × Nat)) (sp : Sp) (W : WX) (t tk : TA) : TE := fun σ H Q => t σ H fun vs H1 => tk σ H1 fun zs H2 => vs.length = n ∧ zs.length = m ∧ (ClsOk K c x gs → ∀ ds, All2 (Cst.Is K) ms ds → ∀ p dx, H2 p = none → H2 dx = none → dx ≠ p →
  sp (gSel sel (.ref p :: vs) ds zs) (upd (upd H2 dx (.own p)) p (.ins (c.cls x) dx [])) (fun v H3 => v = .non ∧ Q (.ref p) H3) (WE W σ))
def tMtX (c : CEnv) (x m : Str) (sp : Sp) (W : WX) (ta : TE) (t : TA) : TE := fun σ H Q => ta σ H fun v H1 => ∃ a dx fs, v = .ref a ∧ H1 a = some (.ins (c.cls x) dx fs) ∧ fs.lookup m = none ∧ t σ H1 fun vs H2 => sp (v :: vs) H2 Q (WE W σ)
/-! own exceptions -/
structure ExcF (K : PySem.W.Frag) (mg : Str → Option Value) (c : CEnv) (x : Str) : Prop where
  q : PySem.W.excIn K (c.cls x) [.type "ValueError", .type "Exception", .type "BaseException", .type "object"] "ValueError.__new__" = true
  mg : mg x = some (.ref (c.cls x))
  kp : PySem.W.keepIn K (.ref (c.cls x)) = true
  sb : PySem.W.subIn K (.ref (c.cls x)) (.type "BaseException") = some true
  ty : PySem.W.typeIn K (.ref (c.cls x)) = some (.type "type")
def sRaise (c : CEnv) (x : Str) (W : WX) : TS := fun _ σ H => W (.ref (c.cls x)) none σ H
def sTry (K : PySem.W.Frag) (c : CEnv) (x : Str) (ys : List Str) (tb : WX → TS) (ts : TS) (Wo : WX) : TS := fun D σ H =>
  (∀ y ∈ ys, PySem.W.exmOne K (.ref (c.cls y)) (.ref (c.cls x)) = some (SUB y x)) → tb (wOnly K (.ref (c.cls x)) (fun _ _ _ => ts) Wo D) D σ H
section
variable {X : Cx} {c : CEnv} {k n : Nat} {x m : Str} {ps gs : List Str} {sp : Sp} {W : WX} {p pos apos : Pos} {e o : Expr} {es : List Expr} {t tk : TA} {ta : TE}
theorem z_callX (D : DfnX X.prog X.w X.K X.mg X.base k x ps sp) (hx : ∀ σ, PassesAt (L2.CX X.prog X.w) X σ (WE W σ)) (hr : Room k X.A) (hg : Gl X x) (ha : PA X (e :: es) t) (hdb : (x == ("__debug__" : Str)) = false := by decide)
    (he : starEach (e :: es) X.env = (false, eval e X.env) :: starEach es X.env := by rfl) (hpl : (backTo pos (starEach es X.env)).any (·.1) = false := by rfl) : PE X (.Call (.Name x p) (e :: es) [] pos) (tCallS sp (WE W) t) := by
  obtain ⟨f, fd, hm, hk, hb, F⟩ := D.ex
  exact pe_callS F hr hg hm hk hb hx ha hdb he hpl
/-- a made instance: what __init__ raises is wished for at the slots as they stand -/
theorem run_mkS {CX : CXT} {C f : Addr} {fd : FuncData} {ks : List Str} {g : List Value → List Value → List Value} {gV : List V → List V → List V} {E : XK} {pins : List (Addr × Obj)} {σ : L2.St} {H : Hp} {s : Shared} {Q : VK} {us ws : List Value} {vs zs : List V}
    (M : Mk X.K C f) (F : FnOk X.prog X.w X.K X.mg X.base CX k f fd ps sp) (hr : Room (k + 1) X.A) (bind : ∀ s : Shared, X.K.In s.heap → BindsTo s fd ⟨Value.ref (s.heap.objs.size - 1) :: us, ks.zip ws⟩ (ps.zip (g (Value.ref (s.heap.objs.size - 1) :: us) ws)))
    (rel : ∀ q, Vals (gV (V.ref q :: vs) zs) (g (Value.ref q :: us) ws)) (hx : PassesAt CX X σ E) (I : Inv X pins σ H s)
    (h : ∀ q dx, H q = none → H dx = none → dx ≠ q → sp (gV (.ref q :: vs) zs) (upd (upd H dx (.own q)) q (.ins C dx [])) (fun v H2 => v = .non ∧ Q (.ref q) H2) E)
    (bind2 : ∀ (s2 : Shared) (q : Addr), X.K.In s2.heap → BindsTo s2 fd ⟨Value.ref q :: us, ks.zip ws⟩ (ps.zip (g (Value.ref q :: us) ws))) :
    wpAny (model X.prog X.w) X.A (call (.ref C) us (ks.zip ws)) (EP X pins σ Q) X.xe s := by
  have want := h (s.heap.objs.size + 1) s.heap.objs.size (I.hok.fresh (Nat.le_succ _)) (I.hok.fresh (Nat.le_refl _)) (Nat.ne_of_lt (Nat.lt_succ_self _))
  have J := Inv.made (C := C) I
  have go := F.run _ X.stack _ _ ⟨Value.ref (s.heap.objs.size + 1) :: us, ks.zip ws⟩ (g (Value.ref (s.heap.objs.size + 1) :: us) ws) _ _ E (hr.make C us (ks.zip ws)) (J.env0.make C us (ks.zip ws)) (bind2 _ _ J.kIn) (rel _) want
  refine wpAny_call (make_map (f := f) I.kIn M.makes M.init (beq_iff_eq.mp M.fn) (codeAny_mono go fun r s' hr' => ?_))
  match r, hr' with
  | .error e, hr' => exact hx pins _ _ e s' J hr'
  | .ok (.ret u), hr' =>
    obtain ⟨v, H', I3, rv, ev, q3⟩ := J.after hr'
    subst ev
    exact ⟨rv, ⟨V.ref (s.heap.objs.size + 1), H', I3, rfl, q3⟩⟩
  | .ok .next, hr' => exact hr'.elim
  | .ok .brk, hr' => exact hr'.elim
  | .ok .cont, hr' => exact hr'.elim
theorem z_makeX (CF : ClsF X.K X.mg c x gs) (M : MkrX X.prog X.w X.K X.mg X.base k (c.cls x) ps sp) (hx : ∀ σ, PassesAt (L2.CX X.prog X.w) X σ (WE W σ)) (hr : Room (k + 1) X.A) (hg : Gl X x) (ha : PA X (e :: es) t) (hdb : (x == ("__debug__" : Str)) = false := by decide)
    (he : starEach (e :: es) X.env = (false, eval e X.env) :: starEach es X.env := by rfl) (hpl : (backTo pos (starEach es X.env)).any (·.1) = false := by rfl) : PE X (.Call (.Name x p) (e :: es) [] pos) (tMkX X.K c x gs sp W t) := by
  obtain ⟨f, fd, hM, hb, F⟩ := M.ex
  refine ⟨fun pins s σ H Q I h => ?_⟩
  refine wpAny_Call_Name_kw (ld_glob I hg CF.mg ?_ hdb)
  refine PySem.W.callWith_K (h₀ := X.base) I.ok.mod.kin hM.kp (thn (ha.run pos pins s σ H _ I h) fun us s1 ⟨vs, H1, I1, r, q⟩ => ⟨I1.kIn, ?_⟩) he hpl
  have hl : ∀ a : Addr, (Value.ref a :: us).length = ps.length := fun a => by
    have w := F.len _ _ _ _ (q CF.ok (s1.heap.objs.size + 1) s1.heap.objs.size (I1.hok.fresh (Nat.le_succ _)) (I1.hok.fresh (Nat.le_refl _)) (Nat.ne_of_lt (Nat.lt_succ_self _)))
    have l := r.length
    simp only [List.length_cons] at w ⊢
    omega
  have b : ∀ (s2 : Shared) (a : Addr), X.K.In s2.heap → BindsTo s2 fd ⟨Value.ref a :: us, ([] : List Str).zip ([] : List Value)⟩ (ps.zip (Value.ref a :: us)) := fun s2 a ki => by
    have z := hb s2 (Value.ref a :: us) ki (by rw [List.append_nil]; exact hl a)
    rw [List.append_nil] at z
    exact z
  exact run_mkS (ks := []) (ws := []) (zs := []) (g := fun us _ => us) (gV := fun vs _ => vs) hM F hr (fun s2 ki => b s2 _ ki) (fun _ => .cons rfl r) (hx σ) I1 (q CF.ok) b
theorem z_makeK {CX : CXT} {ks : List Str} {kws : List Keyword} {ms : List Cst} {sel : List (Bool × Nat)} {nk : Nat} (CF : ClsF X.K X.mg c x gs) (M : MkrK CX X.prog X.w X.K X.mg X.base k (c.cls x) ps sp n ks ms sel) (hx : ∀ σ, PassesAt CX X σ (WE W σ)) (hr : Room (k + 1) X.A) (hg : Gl X x) (ha : PA X (e :: es) t) (hkw : PK X kws tk)
    (hnk : ks.length = nk := by rfl) (hall : (backToKw pos (keywordEach kws X.env)).all (·.1.isSome) = true := by rfl) (hks : (backToKw pos (keywordEach kws X.env)).filterMap (·.1) = ks := by rfl) (hdb : (x == ("__debug__" : Str)) = false := by decide)
    (he : starEach (e :: es) X.env = (false, eval e X.env) :: starEach es X.env := by rfl) (hpl : ((backTo pos (starEach (e :: es) X.env)).any (·.1) || (backToKw pos (keywordEach kws X.env)).any (·.1.isNone)) = false := by rfl) :
    PE X (.Call (.Name x p) (e :: es) kws pos) (tMkK X.K c x gs n nk ms sel sp W t tk) := by
  subst hnk
  obtain ⟨f, fd, g, ds, hM, hds, hb, F⟩ := M.ex
  refine ⟨fun pins s σ H Q I h => ?_⟩
  refine wpAny_Call_Name_kw (ld_glob I hg CF.mg ?_ hdb)
  refine PySem.W.callWith_KW (h₀ := X.base) I.ok.mod.kin hM.kp hall (thn (ha.run pos pins s σ H _ I h) fun us s1 ⟨vs, H1, I1, r, q⟩ => ?_) hpl he
  refine thn (hkw.run pos pins s1 σ H1 _ I1 q) fun ws s2 ⟨zs, H2, I2, rz, l1, l2, q2⟩ => ⟨I2.kIn, ?_⟩
  rw [hks]
  have n1 : ∀ a : Addr, (Value.ref a :: us).length = n + 1 := fun a => by rw [List.length_cons, ← r.length, l1]
  exact run_mkS (g := g) (gV := fun vs zs => gSel sel vs ds zs) hM F hr (fun s3 ki => hb.to s3 _ ws ki (n1 _) (rz.length.symm.trans l2)) (fun a => hb.rel (.cons rfl r) rz) (hx σ) I2 (q2 CF.ok ds hds) (fun s3 a ki => hb.to s3 _ ws ki (n1 _) (rz.length.symm.trans l2))
theorem z_raise {j : Nat} {p2 pos' : Pos} (hc : X.calm = true) (E : ExcF X.K X.mg c x) (tk : Takes X W) (hg : Gl X x) (hdb : (x == ("__debug__" : Str)) = false := by decide) : PS X (.Raise (some (.Call (.Name x p) [.Constant (.str m) j p2] [] pos)) none pos') (sRaise c x W) :=
  ps_raise hc tk (pmk_own F.excBase_ValueError E.q E.mg E.kp (raises_own E.sb E.ty) hg hdb)
theorem z_try {x : Str} {ys : List Str} {body suite : List Stmt} {b₀ : Stmt} {np pos pos' : Pos} {tb : WX → TS} {ts : TS} {Wo : WX} (hs : X.stack = X.env :: X.outer) (hf : X.env.frame = some X.env.locals) (hg : Gl X x) (hm : X.mg x = some (.ref (c.cls x))) (he : ∀ y ∈ ys, PySem.W.exmOne X.K (.ref (c.cls y)) (.ref (c.cls x)) = some (SUB y x)) (tk : Takes X Wo)
    (hb : ∀ (W : WX) (pn : List (Addr × Obj)) (xe : Value → Shared → Prop), Takes (X.tr pn xe) W → PassesOwn (model X.prog X.w) X.A X.env xe → PSs (X.tr pn xe) body (tb W))
    (hsu : ∀ (a : Addr) (oe : Obj) (cls : Value) (d : Option Addr) (pn : List (Addr × Obj)), Zc cls d oe → (∃ vs, oe.data = .fields vs) → PSs (X.suite a ((a, oe) :: pn)) (b₀ :: suite) ts) (hdb : (x == ("__debug__" : Str)) = false := by decide) :
    PS X (.Try body [.ExceptHandler (some (.Name x np)) none (b₀ :: suite) pos'] [] [] pos) (sTry X.K c x ys tb ts Wo) :=
  ⟨fun pins s σ H D I h => (ps_try_only (ts := fun _ _ _ => ts) hs hf ⟨hg, hdb, .inl hm⟩ tk hb hsu).run pins s σ H D I (h he)⟩
end
section
variable {K : PySem.W.Frag} {c : CEnv} {x y m : Str} {gs : List Str} {H : Hp} {Q : VK} {σ : L2.St} {t tk : TA} {ta : TE} {sp : Sp} {W : WX} {D : Ends}
theorem z_calS (k : t σ H fun vs H1 => sp vs H1 Q (WE W σ)) : tCallS sp (WE W) t σ H Q := k
theorem z_mkX (k : t σ H fun vs H1 => ClsOk K c x gs → ∀ p dx, H1 p = none → H1 dx = none → dx ≠ p → sp (.ref p :: vs) (upd (upd H1 dx (.own p)) p (.ins (c.cls x) dx [])) (fun v H2 => v = .non ∧ Q (.ref p) H2) (WE W σ)) : tMkX K c x gs sp W t σ H Q := k
theorem z_mkK {n nk : Nat} {ms : List Cst} {sel : List (Bool × Nat)} (k : t σ H fun vs H1 => tk σ H1 fun zs H2 => vs.length = n ∧ zs.length = nk ∧ (ClsOk K c x gs → ∀ ds, All2 (Cst.Is K) ms ds → ∀ p dx, H2 p = none → H2 dx = none → dx ≠ p →
  sp (gSel sel (.ref p :: vs) ds zs) (upd (upd H2 dx (.own p)) p (.ins (c.cls x) dx [])) (fun v H3 => v = .non ∧ Q (.ref p) H3) (WE W σ))) : tMkK K c x gs n nk ms sel sp W t tk σ H Q := k
theorem z_mtX (k : ta σ H fun v H1 => ∃ a dx fs, v = .ref a ∧ H1 a = some (.ins (c.cls x) dx fs) ∧ fs.lookup m = none ∧ t σ H1 fun vs H2 => sp (v :: vs) H2 Q (WE W σ)) : tMtX c x m sp W ta t σ H Q := k
theorem z_rse (k : W (.ref (c.cls x)) none σ H) : sRaise c x W D σ H := k
theorem z_tr {ys : List Str} {tb : WX → TS} {ts : TS} {Wo : WX} (k : (∀ y ∈ ys, PySem.W.exmOne K (.ref (c.cls y)) (.ref (c.cls x)) = some (SUB y x)) → tb (wOnly K (.ref (c.cls x)) (fun _ _ _ => ts) Wo D) D σ H) : sTry K c x ys tb ts Wo D σ H := k
/-- an exception of the clause's class -/
theorem z_caught {ts : TS} {Wo : WX} {d : Option Addr} (h : PySem.W.exmOne K (.ref (c.cls y)) (.ref (c.cls x)) = some (SUB y x)) (e : SUB y x = true) (k : ts D σ H) : wOnly K (.ref (c.cls x)) (fun _ _ _ => ts) Wo D (.ref (c.cls y)) d σ H :=
  ⟨true, by rw [h, e], fun _ _ _ => k, fun z => nomatch z⟩
theorem cst0 {ds : List V} (h : All2 (Cst.Is K) [] ds) : ds = [] := by cases h; rfl
theorem cstE {ms : List Cst} {ds : List V} (h : All2 (Cst.Is K) (.e :: ms) ds) : ∃ T ds', ds = .ref T :: ds' ∧ (∀ H, SqT K H T []) ∧ All2 (Cst.Is K) ms ds' := by
  cases h with
  | cons h t => obtain ⟨T, rfl, e⟩ := h; exact ⟨T, _, rfl, e, t⟩
theorem cstV {v : V} {ms : List Cst} {ds : List V} (h : All2 (Cst.Is K) (.v v :: ms) ds) : ∃ ds', ds = v :: ds' ∧ All2 (Cst.Is K) ms ds' := by
  cases h with
  | cons h t => cases h; exact ⟨_, rfl, t⟩
end
section
variable {K : PySem.W.Frag} {H : Hp} {σ : L2.St}
theorem z_gTup3 {t' : Addr} {a b d : V} {u v w : Nat} {P : L2.St → Hp → Prop} (h : SqT K H t' [a, b, d]) (k : P (((σ.set u (some a)).set v (some b)).set w (some d)) H) : gTup K 3 (gCons (gName u) (gCons (gName v) (gCons (gName w) gNil))) (.ref t') σ H P :=
  ⟨t', [a, b, d], rfl, h, rfl, a, [b, d], rfl, b, [d], rfl, d, [], rfl, rfl, k⟩
end
theorem dec_rn {a : Addr} : decide (V.ref a = V.non) = false := decide_eq_false (fun z => by cases z)
theorem dec_in {a : Int} : decide (V.int a = V.non) = false := decide_eq_false (fun z => by cases z)
theorem dec_sn {a : Str} : decide (V.str a = V.non) = false := decide_eq_false (fun z => by cases z)
theorem dec_bn {a : Bool} : decide (V.bl a = V.non) = false := decide_eq_false (fun z => by cases z)
/-! constants: tuples of the module -/
def tCstT (K : PySem.W.Frag) (xs : List V) : TE := fun σ H Q => ∀ T, (∀ H, SqT K H T xs) → Q (.ref T) H
theorem z_gtup {X : Cx} {x : Str} {xs : List V} {pos : Pos} (hm : ∃ T, X.mg x = some (.ref T) ∧ ∀ H, SqT X.K H T xs) (hg : Gl X x) (hd : (x == ("__debug__" : Str)) = false := by decide) : PE X (.Name x pos) (tCstT X.K xs) := by
  obtain ⟨T, hm, hs⟩ := hm
  exact ⟨fun pins s σ H Q I h => ld_glob I hg hm ⟨.ref T, H, I, rfl, h T hs⟩ hd⟩
theorem z_cstT {K : PySem.W.Frag} {xs : List V} {σ : L2.St} {H : Hp} {Q : VK} (k : ∀ T, (∀ H, SqT K H T xs) → Q (.ref T) H) : tCstT K xs σ H Q := k
theorem sqT_lit {K : PySem.W.Frag} {T : Addr} {dd : Option Addr} {its : List Value} {n : Nat} {sl : Array (Option Value)} {xs : List V} (l : K.lookup T = some ⟨.type "tuple", dd, .seq its.toArray n, sl⟩) (h : Vals xs its) (hs : xs.length ≤ 1000) : ∀ H, SqT K H T xs := fun H =>
  .inr ⟨_, _, _, l, rfl, rfl, by have := h.length; simp; exact Nat.le_trans (by omega : its.length ≤ 1000) (by decide), by simpa using h⟩
/-- an error of the class y, as «except x» asks -/
theorem exm_of {K : PySem.W.Frag} {C D : Addr} {b : Bool} (h1 : PySem.W.subIn K (.ref C) (.type "BaseException") = some true) (h2 : PySem.W.isClsIn K C = true) (h3 : PySem.W.typeIn K (.ref C) = some (.type "type")) (h4 : PySem.W.subIn K (.ref D) (.ref C) = some b) :
    PySem.W.exmOne K (.ref D) (.ref C) = some b := by
  have e1 : (PySem.W.subIn K (.ref C) (.type "BaseException") == some true) = true := by rw [h1] <;> rfl
  have e2 : ((PySem.W.clsIn K C).isSome && PySem.W.typeIn K (.ref C) == some (.type "type")) = true := by
    have q : (PySem.W.clsIn K C).isSome = true := h2
    rw [q, h3] <;> rfl
  show (if (PySem.W.subIn K (.ref C) (.type "BaseException") == some true) = true then (if ((PySem.W.clsIn K C).isSome && PySem.W.typeIn K (.ref C) == some (.type "type")) = true then PySem.W.subIn K (.ref D) (.ref C) else none) else none) = some b
  rw [if_pos e1, if_pos e2]
  exact h4

local macro_rules | `(tactic| walk_at "z") => `(tactic| with_reducible first
  | refine z_calS ?_ | refine z_mkX ?_ | refine z_mkK ?_ | refine z_mtX ?_ | refine z_rse ?_ | (refine z_tr ?_; intro _) | (refine z_cstT ?_; intro _ _) | refine z_forEA ?_ | refine z_lenSet ?_)
local macro_rules | `(tactic| walk_at "zy") => `(tactic| repeat (first | walk_at "z" | walk_at "zd" | rw [decide_eq_true rfl] | rw [dec_rn] | rw [dec_in] | rw [dec_sn] | rw [dec_bn]))

/-! dicts of the module with texts as keys; texts sign by sign -/
/-- a constant: a value, or a tuple -/
inductive DV where
  | v (x : V)
  | t (xs : List V)
def DV.Is (K : PySem.W.Frag) : DV → V → Prop
  | .v x, u => u = x
  | .t xs, u => ∃ T, u = .ref T ∧ ∀ H, SqT K H T xs
structure KD (K : PySem.W.Frag) (w : World) (mg : Str → Option Value) (x : Str) (l : List (Str × DV)) : Prop where
  ex : ∃ (d : Addr) (es : Array DictEntry) (n : Nat), mg x = some (.ref d) ∧ KDict K w d es n ∧ ∀ z : Str, (l.lookup z = none → PySem.W.nsIn K d z = some none) ∧ ∀ dv, l.lookup z = some dv → ∃ u v, PySem.W.nsIn K d z = some (some u) ∧ RelV v u ∧ dv.Is K v
def tKin (l : List (Str × DV)) (ta : TE) : TE := fun σ H Q => ta σ H fun x H1 => ∃ z, x = .str z ∧ Q (.bl (l.lookup z).isSome) H1
def tKout (l : List (Str × DV)) (ta : TE) : TE := fun σ H Q => ta σ H fun x H1 => ∃ z, x = .str z ∧ Q (.bl (!(l.lookup z).isSome)) H1
def tKix (K : PySem.W.Frag) (l : List (Str × DV)) (ta : TE) : TE := fun σ H Q => ta σ H fun x H1 => ∃ z dv, x = .str z ∧ l.lookup z = some dv ∧ ∀ v, dv.Is K v → Q v H1
section
variable {X : Cx} {x : Str} {l : List (Str × DV)} {p pos : Pos} {e : Expr} {te : TE}
theorem kd_get {K : PySem.W.Frag} {d : Addr} (h : ∀ z : Str, (l.lookup z = none → PySem.W.nsIn K d z = some none) ∧ ∀ dv, l.lookup z = some dv → ∃ u v, PySem.W.nsIn K d z = some (some u) ∧ RelV v u ∧ dv.Is K v) (z : Str) : ∃ r, PySem.W.nsIn K d z = some r ∧ r.isSome = (l.lookup z).isSome := by
  cases q : l.lookup z with
  | none => exact ⟨none, (h z).1 q, rfl⟩
  | some dv => obtain ⟨u, _, e, _⟩ := (h z).2 dv q; exact ⟨some u, e, rfl⟩
theorem kin_eq {d : Addr} {σ : L2.St} {H : Hp} {Q : VK} {K : PySem.W.Frag} (hz : ∀ z : Str, (l.lookup z = none → PySem.W.nsIn K d z = some none) ∧ ∀ dv, l.lookup z = some dv → ∃ u v, PySem.W.nsIn K d z = some (some u) ∧ RelV v u ∧ dv.Is K v) (h : tKin l te σ H Q) :
    tOp (fun x y H Q => ∃ (z : Str) (r : Option Value), x = .str z ∧ y = .ref d ∧ PySem.W.nsIn K d z = some r ∧ Q (.bl r.isSome) H) te (tC (.ref d)) σ H Q := by
  have q : (fun (y : V) (H1 : Hp) => ∃ z, y = .str z ∧ Q (.bl (l.lookup z).isSome) H1) = fun y H1 => ∃ (z : Str) (r : Option Value), y = .str z ∧ V.ref d = .ref d ∧ PySem.W.nsIn K d z = some r ∧ Q (.bl r.isSome) H1 := by
    funext y H1
    refine propext ⟨fun ⟨z, ey, q⟩ => ?_, fun ⟨z, r, ey, _, er, q⟩ => ?_⟩
    · obtain ⟨r, er, es⟩ := kd_get hz z
      exact ⟨z, r, ey, rfl, er, by rw [es]; exact q⟩
    · obtain ⟨r', er', es⟩ := kd_get hz z
      rw [er] at er'; cases er'
      exact ⟨z, ey, by rw [← es]; exact q⟩
  show te σ H _
  exact (congrArg (te σ H) q) ▸ h
theorem kout_eq {d : Addr} {σ : L2.St} {H : Hp} {Q : VK} {K : PySem.W.Frag} (hz : ∀ z : Str, (l.lookup z = none → PySem.W.nsIn K d z = some none) ∧ ∀ dv, l.lookup z = some dv → ∃ u v, PySem.W.nsIn K d z = some (some u) ∧ RelV v u ∧ dv.Is K v) (h : tKout l te σ H Q) :
    tOp (fun x y H Q => ∃ (z : Str) (r : Option Value), x = .str z ∧ y = .ref d ∧ PySem.W.nsIn K d z = some r ∧ Q (.bl (!r.isSome)) H) te (tC (.ref d)) σ H Q := by
  have q : (fun (y : V) (H1 : Hp) => ∃ z, y = .str z ∧ Q (.bl (!(l.lookup z).isSome)) H1) = fun y H1 => ∃ (z : Str) (r : Option Value), y = .str z ∧ V.ref d = .ref d ∧ PySem.W.nsIn K d z = some r ∧ Q (.bl (!r.isSome)) H1 := by
    funext y H1
    refine propext ⟨fun ⟨z, ey, q⟩ => ?_, fun ⟨z, r, ey, _, er, q⟩ => ?_⟩
    · obtain ⟨r, er, es⟩ := kd_get hz z
      exact ⟨z, r, ey, rfl, er, by rw [es]; exact q⟩
    · obtain ⟨r', er', es⟩ := kd_get hz z
      rw [er] at er'; cases er'
      exact ⟨z, ey, by rw [← es]; exact q⟩
  show te σ H _
  exact (congrArg (te σ H) q) ▸ h
theorem z_kin (D : KD X.K X.w X.mg x l) (he : PE X e te) (hg : Gl X x) (hd : (x == ("__debug__" : Str)) = false := by decide) : PE X (.Compare e [.In] [.Name x p] pos) (tKin l te) := by
  obtain ⟨d, es, n, hm, kd, hz⟩ := D.ex
  have a := pe_cmpR (pos := pos) (op_in_kd kd) he (pe_glob (v := .ref d) (pos := p) hg hm rfl hd) (by rfl)
  exact ⟨fun pins s σ H Q I h => a.run pins s σ H Q I (kin_eq hz h)⟩
theorem z_kout (D : KD X.K X.w X.mg x l) (he : PE X e te) (hg : Gl X x) (hd : (x == ("__debug__" : Str)) = false := by decide) : PE X (.Compare e [.NotIn] [.Name x p] pos) (tKout l te) := by
  obtain ⟨d, es, n, hm, kd, hz⟩ := D.ex
  have a := pe_cmpR (pos := pos) (op_notIn_kd kd) he (pe_glob (v := .ref d) (pos := p) hg hm rfl hd) (by rfl)
  exact ⟨fun pins s σ H Q I h => a.run pins s σ H Q I (kout_eq hz h)⟩
theorem z_kinP (D : KD X.K X.w X.mg x l) (he : PE X e te) (hg : Gl X x) (hd : (x == ("__debug__" : Str)) = false := by decide) : PT X (.Compare e [.In] [.Name x p] pos) (tTest (tKin l te)) := by
  obtain ⟨d, es, n, hm, kd, hz⟩ := D.ex
  have a := pt_cmpR (pos := pos) (op_in_kd kd) he (pe_glob (v := .ref d) (pos := p) hg hm rfl hd) (by rfl)
  exact ⟨fun pins s σ H Q I h => a.run pins s σ H Q I (kin_eq hz h)⟩
theorem z_koutP (D : KD X.K X.w X.mg x l) (he : PE X e te) (hg : Gl X x) (hd : (x == ("__debug__" : Str)) = false := by decide) : PT X (.Compare e [.NotIn] [.Name x p] pos) (tTest (tKout l te)) := by
  obtain ⟨d, es, n, hm, kd, hz⟩ := D.ex
  have a := pt_cmpR (pos := pos) (op_notIn_kd kd) he (pe_glob (v := .ref d) (pos := p) hg hm rfl hd) (by rfl)
  exact ⟨fun pins s σ H Q I h => a.run pins s σ H Q I (kout_eq hz h)⟩
theorem ix_kd {d : Addr} {es : Array DictEntry} {n : Nat} (D : KDict X.K X.w d es n) : IxR X (fun x y H Q => ∃ (z : Str) (u0 : Value) (v0 : V), x = .ref d ∧ y = .str z ∧ PySem.W.nsIn X.K d z = some (some u0) ∧ RelV v0 u0 ∧ Q v0 H) := by
  intro value slice pins s σ H x y v u Q I rx ry h hs
  have ex : x = .ref d := by obtain ⟨_, _, _, e, _⟩ := h; exact e
  have ev : v = .ref d := by subst ex; exact rx
  refine PyProof.Rows.tail_any (ev ▸ kd_type D I) PySem.F.slot_dict_getitem.lookup (op_item_kd D pins s σ H x y v u Q I rx ry h) hs
theorem z_kix (D : KD X.K X.w X.mg x l) (he : PE X e te) (hg : Gl X x) (hs : PlainIx e := by exact fun _ _ => rfl) (hd : (x == ("__debug__" : Str)) = false := by decide) : PE X (.Subscript (.Name x p) e pos) (tKix X.K l te) := by
  obtain ⟨d, es, n, hm, kd, hz⟩ := D.ex
  refine ⟨fun pins s σ H Q I h => ?_⟩
  have q : (fun (y : V) (H1 : Hp) => ∃ z dv, y = .str z ∧ l.lookup z = some dv ∧ ∀ v, dv.Is X.K v → Q v H1) = fun y H1 => V.ref d = .ref d ∧ ∃ z dv, y = .str z ∧ l.lookup z = some dv ∧ ∀ v, dv.Is X.K v → Q v H1 := by
    funext y H1
    exact propext ⟨fun z => ⟨rfl, z⟩, fun z => z.2⟩
  have h2 : te σ H fun y H1 => V.ref d = .ref d ∧ ∃ z dv, y = .str z ∧ l.lookup z = some dv ∧ ∀ v, dv.Is X.K v → Q v H1 := (congrArg (te σ H) q) ▸ h
  refine PyProof.Rows.Subscript_ (binT (ta := tC (.ref d)) (tb := te) (pe_glob (v := .ref d) (pos := p) hg hm rfl hd) he I (R := fun x y H1 => x = V.ref d ∧ ∃ z dv, y = .str z ∧ l.lookup z = some dv ∧ ∀ v, dv.Is X.K v → Q v H1) h2 fun v u s2 x y H2 I2 rx ry q => ?_)
  obtain ⟨rfl, z, dv, ey, el, q⟩ := q
  obtain ⟨w, w', en, r, i⟩ := (hz z).2 dv el
  exact ix_kd kd _ _ pins s2 σ H2 _ _ v u Q I2 rx ry ⟨z, w, w', rfl, ey, en, r, q w' i⟩ (hs _ _)
end
/-! what the top has written of such a dict -/
theorem find_lit {K : PySem.W.Frag} {es : List DictEntry} {l : List (Str × DV)} (r : All2 (fun (e : DictEntry) (kv : Str × DV) => (∃ t, e.key = .str kv.1 t) ∧ ∃ v, RelV v e.val ∧ kv.2.Is K v) es l) (z : Str) :
    es.any (·.refKey) = false ∧ (l.lookup z = none → es.find? (·.key.isStr z) = none) ∧ ∀ dv, l.lookup z = some dv → ∃ e v, es.find? (·.key.isStr z) = some e ∧ RelV v e.val ∧ dv.Is K v := by
  induction r with
  | nil => exact ⟨rfl, fun _ => rfl, fun dv h => by cases h⟩
  | @cons e kv es l h _ ih =>
    obtain ⟨⟨t, ek⟩, v, rv, iv⟩ := h
    obtain ⟨k, dv0⟩ := kv
    have b : e.key.isStr z = (z == k) := by
      rw [ek]
      first
        | rfl
        | (rw [Bool.eq_iff_iff]; simp [Value.isStr]; exact ⟨fun h => h.symm, fun h => h.symm⟩)
        | (simp [Value.isStr, eq_comm])
    refine ⟨by rw [List.any_cons, ih.1, Bool.or_false]; unfold DictEntry.refKey; rw [ek], ?_, ?_⟩
    · intro h
      rw [List.lookup_cons] at h
      rw [List.find?_cons, b]
      cases q : z == k with
      | true => rw [q] at h; cases h
      | false => rw [q] at h; exact ih.2.1 h
    · intro dv h
      rw [List.lookup_cons] at h
      rw [List.find?_cons, b]
      cases q : z == k with
      | true => rw [q] at h; cases h; exact ⟨e, v, rfl, rv, iv⟩
      | false => rw [q] at h; exact ih.2.2 dv h
theorem kd_of {K : PySem.W.Frag} {w : World} {mg : Str → Option Value} {x : Str} {d : Addr} {es : List DictEntry} {n : Nat} {l : List (Str × DV)} (hm : mg x = some (.ref d)) (at_ : K.lookup d = some ⟨.type "dict", none, .dict es.toArray n, #[]⟩) (lit : PySem.W.KeysLit w.params es) (low : (d == sysModules) = false)
    (r : All2 (fun (e : DictEntry) (kv : Str × DV) => (∃ t, e.key = .str kv.1 t) ∧ ∃ v, RelV v e.val ∧ kv.2.Is K v) es l) : KD K w mg x l := by
  refine ⟨d, es.toArray, n, hm, ⟨at_, by simpa using lit, low⟩, fun z => ?_⟩
  obtain ⟨h1, h2, h3⟩ := find_lit r z
  unfold PySem.W.nsIn
  rw [at_]
  dsimp only
  refine ⟨fun q => ?_, fun dv q => ?_⟩
  · have e := h2 q
    simp only [e, h1]
    rfl
  · obtain ⟨e, v, e1, rv, iv⟩ := h3 dv q
    refine ⟨e.val, v, ?_, rv, iv⟩
    simp only [e1]
/-! steps -/
section
variable {K : PySem.W.Frag} {l : List (Str × DV)} {ta te : TE} {σ : L2.St} {H : Hp} {Q : VK} {g : TG} {tb : TS} {D : Ends} {x : Str} {b : Bool}
theorem z_kinT (k : ta σ H fun x H1 => ∃ z, x = .str z ∧ Q (.bl (l.lookup z).isSome) H1) : tKin l ta σ H Q := k
theorem z_koutT (k : ta σ H fun x H1 => ∃ z, x = .str z ∧ Q (.bl (!(l.lookup z).isSome)) H1) : tKout l ta σ H Q := k
theorem z_kixT (k : ta σ H fun x H1 => ∃ z dv, x = .str z ∧ l.lookup z = some dv ∧ ∀ v, dv.Is K v → Q v H1) : tKix K l ta σ H Q := k
theorem z_kst {P : Str → Prop} {x : Str} (k : P x) : ∃ z, V.str x = .str z ∧ P z := ⟨x, rfl, k⟩
def zForTx (g : TG) (tb : TS) (D : Ends) (σ : L2.St) (v : V) (H1 : Hp) : Prop := ∃ x, v = .str x ∧ ∃ W : Nat → Nat → L2.St → Hp → Prop, (∃ m, W 0 m σ H1) ∧ ∀ i m σ H, W i m σ H →
  ((Its x).stop i H ∧ D.nx σ H) ∨ ((Its x).go i H ∧ ∃ N : L2.St → Hp → Prop, (∀ σ' H', N σ' H' → ∃ m', m' < m ∧ W (i + 1) m' σ' H') ∧ ∀ y H', (Its x).yld i H y H' → g y σ H' fun σ2 H2 => tb { D with nx := N, ct := N, bk := D.nx } σ2 H2)
theorem z_forTx (k : te σ H fun v H1 => zForTx g tb D σ v H1) : tFor (iStr te) g tb D σ H := k
/-- over the signs of a text -/
theorem z_txt {u : Nat} (Pv : Nat → L2.St → Hp → Prop) (h0 : Pv 0 σ H) (hs : ∀ i c σ' H', x.cps[i]? = some c → Pv i σ' H' → tb { D with nx := Pv (i + 1), ct := Pv (i + 1), bk := D.nx } (σ'.set u (some (.str ⟨#[c]⟩))) H')
    (hd : ∀ σ' H', Pv x.cps.size σ' H' → D.nx σ' H') : zForTx (gName u) tb D σ (.str x) H := by
  refine ⟨x, rfl, fun i m σ H => m = x.cps.size - i ∧ i ≤ x.cps.size ∧ Pv i σ H, ⟨_, rfl, Nat.zero_le _, h0⟩, ?_⟩
  rintro i m σ' H' ⟨rfl, hi, p⟩
  by_cases lt : i < x.cps.size
  · refine .inr ⟨lt, Pv (i + 1), fun σ2 H2 p' => ⟨_, by omega, rfl, by omega, p'⟩, ?_⟩
    rintro y H2 ⟨rfl, c, hc, rfl⟩
    exact hs i c σ' H2 hc p
  · have e : i = x.cps.size := by omega
    subst e
    exact .inl ⟨Nat.le_refl _, hd σ' H' p⟩
/-- the place of a flat value in a list -/
theorem z_index {a : Addr} {ys : List V} {y z : V} {j : Nat} (h : SqL K H a ys) (fy : flatV y = true) (fys : ys.all flatV = true) (hz : ys[j]? = some z) (e : eqV z y = true) (no : ∀ (m : Nat) (z' : V), m < j → ys[m]? = some z' → eqV z' y = false) (k : Q (.int (j : Nat)) H) : rIndex K (.ref a) [y] H Q :=
  ⟨a, ys, y, j, z, rfl, rfl, h, fy, fys, hz, e, no, k⟩
end
/-! a try of several clauses -/
def hMany (c : CEnv) (l : List (Str × TS)) : List (Value × (Addr → Value → Option Addr → TS)) := l.map fun z => (.ref (c.cls z.1), fun _ _ _ => z.2)
def sTryM (K : PySem.W.Frag) (c : CEnv) (l : List (Str × TS)) (ys : List Str) (tb : WX → TS) (Wo : WX) : TS := fun D σ H =>
  (∀ x ∈ l.map (·.1), ∀ y ∈ ys, PySem.W.exmOne K (.ref (c.cls y)) (.ref (c.cls x)) = some (SUB y x)) → tb (wMany K Wo D (hMany c l)) D σ H
theorem z_tryM {X : Cx} {c : CEnv} {l : List (Str × TS)} {ys : List Str} {body : List Stmt} {h₀ : ExceptHandler} {hds : List ExceptHandler} {pos : Pos} {tb : WX → TS} {Wo : WX} (hs : X.stack = X.env :: X.outer) (hf : X.env.frame = some X.env.locals)
    (he : ∀ x ∈ l.map (·.1), ∀ y ∈ ys, PySem.W.exmOne X.K (.ref (c.cls y)) (.ref (c.cls x)) = some (SUB y x)) (tk : Takes X Wo)
    (hb : ∀ (W : WX) (pn : List (Addr × Obj)) (xe : Value → Shared → Prop), Takes (X.tr pn xe) W → PassesOwn (model X.prog X.w) X.A X.env xe → PSs (X.tr pn xe) body (tb W)) (hh : HdsOk X (h₀ :: hds) (hMany c l)) : PS X (.Try body (h₀ :: hds) [] [] pos) (sTryM X.K c l ys tb Wo) :=
  ⟨fun pins s σ H D I h => (ps_try_many hs hf tk hb hh).run pins s σ H D I (h he)⟩
theorem z_trM {K : PySem.W.Frag} {c : CEnv} {l : List (Str × TS)} {ys : List Str} {tb : WX → TS} {Wo : WX} {D : Ends} {σ : L2.St} {H : Hp} (k : (∀ x ∈ l.map (·.1), ∀ y ∈ ys, PySem.W.exmOne K (.ref (c.cls y)) (.ref (c.cls x)) = some (SUB y x)) → tb (wMany K Wo D (hMany c l)) D σ H) : sTryM K c l ys tb Wo D σ H := k
theorem z_caughtM {K : PySem.W.Frag} {c : CEnv} {x y : Str} {ts : TS} {l : List (Str × TS)} {Wo : WX} {D : Ends} {σ : L2.St} {H : Hp} {d : Option Addr} (h : PySem.W.exmOne K (.ref (c.cls y)) (.ref (c.cls x)) = some (SUB y x)) (e : SUB y x = true) (k : ts D σ H) : wMany K Wo D (hMany c ((x, ts) :: l)) (.ref (c.cls y)) d σ H :=
  ⟨true, by rw [h, e], fun _ _ _ => k, fun z => nomatch z⟩
theorem z_asgG {K : PySem.W.Frag} {te : TE} {n : Nat} {gs : TGs} {D : Ends} {σ : L2.St} {H : Hp} (k : te σ H fun x H1 => gTup K n gs x σ H1 D.nx) : tAsg te (gTup K n gs) D σ H := k
/-! ord; kinds of flat values; signs in a comprehension -/
def uOrd : List V → Hp → VK → Prop := fun xs H Q => ∃ x, xs = [.str x] ∧ x.length = 1 ∧ Q (.int (x.cps.getD 0 0 : Nat)) H
theorem call_uOrd {X : Cx} : CallR X (.builtin "ord") uOrd := call_ord
theorem z_ord {c : Nat} {H : Hp} {Q : VK} (k : Q (.int (c : Nat)) H) : uOrd [.str ⟨#[c]⟩] H Q := ⟨_, rfl, rfl, k⟩
theorem z_isss {K : PySem.W.Frag} {H : Hp} {Q : VK} {x : Str} (k : Q (.bl true) H) : uIsi K [.str x, .ty "str"] H Q := ⟨_, _, true, .ty _, .base (.str x), rfl, k⟩
theorem z_issb {K : PySem.W.Frag} {H : Hp} {Q : VK} {x : Str} (k : Q (.bl false) H) : uIsi K [.str x, .ty "bool"] H Q := ⟨_, _, false, .ty _, .base (.str x), rfl, k⟩
theorem z_isis {K : PySem.W.Frag} {H : Hp} {Q : VK} {i : Int} (k : Q (.bl false) H) : uIsi K [.int i, .ty "str"] H Q := ⟨_, _, false, .ty _, .base (.int i), rfl, k⟩
theorem z_isbs {K : PySem.W.Frag} {H : Hp} {Q : VK} {b : Bool} (k : Q (.bl false) H) : uIsi K [.bl b, .ty "str"] H Q := ⟨_, _, false, .ty _, .base (.bl b), rfl, k⟩
theorem z_lenS {K : PySem.W.Frag} {H : Hp} {Q : VK} {x : Str} (h : x.length ≤ 100000) (k : Q (.int x.length) H) : uLen K [.str x] H Q := ⟨Nat.le_trans h (by decide), k⟩
def zLcTx (g : TG) (tt : TT) (te : TE) (vs : List Nat) (σ : L2.St) (v : V) (H1 : Hp) (Q : VK) : Prop := ∃ x, v = .str x ∧ ∀ C, H1 C = none → ∃ W : Nat → Nat → Hp → Prop, (∃ m, W 0 m (upd H1 C (.lst []))) ∧ ∀ i m H, W i m H →
  ((Its x).stop i H ∧ Q (.ref C) H) ∨ ((Its x).go i H ∧ ∃ Nx : Hp → Prop, (∀ H', Nx H' → ∃ m', m' < m ∧ W (i + 1) m' H') ∧ ∀ y H', (Its x).yld i H y H' → g y (wipe σ vs) H' fun σ2 H2 => wipe σ2 vs = wipe σ vs ∧ tt σ2 H2 fun b H3 =>
    if b = true then te σ2 H3 fun z H4 => ∃ acc, H4 C = some (.lst acc) ∧ acc.length < sizeLine ∧ Nx (upd H4 C (.lst (acc ++ [z]))) else Nx H3)
theorem z_lcTx {ti te : TE} {g : TG} {tt : TT} {vs : List Nat} {σ : L2.St} {H : Hp} {Q : VK} (k : ti σ H fun v H1 => zLcTx g tt te vs σ v H1 Q) : tLc (iStr ti) g tt te vs σ H Q := k
theorem z_lctx {x : Str} {u : Nat} {te : TE} {tt : TT} {vs : List Nat} {σ : L2.St} {H : Hp} {Q : VK} (Pv : Addr → Nat → Hp → Prop) (h0 : ∀ C, H C = none → Pv C 0 (upd H C (.lst [])))
    (hs : ∀ C i c H', H C = none → x.cps[i]? = some c → Pv C i H' → wipe ((wipe σ vs).set u (some (.str ⟨#[c]⟩))) vs = wipe σ vs ∧ tt ((wipe σ vs).set u (some (.str ⟨#[c]⟩))) H' fun b H3 =>
      if b = true then te ((wipe σ vs).set u (some (.str ⟨#[c]⟩))) H3 fun z H4 => ∃ acc, H4 C = some (.lst acc) ∧ acc.length < sizeLine ∧ Pv C (i + 1) (upd H4 C (.lst (acc ++ [z]))) else Pv C (i + 1) H3)
    (hd : ∀ C H', H C = none → Pv C x.cps.size H' → Q (.ref C) H') : zLcTx (gName u) tt te vs σ (.str x) H Q := by
  refine ⟨x, rfl, fun C hC => ⟨fun i m H => m = x.cps.size - i ∧ i ≤ x.cps.size ∧ Pv C i H, ⟨_, rfl, Nat.zero_le _, h0 C hC⟩, ?_⟩⟩
  rintro i m H' ⟨rfl, hi, p⟩
  by_cases lt : i < x.cps.size
  · refine .inr ⟨lt, Pv C (i + 1), fun H2 p' => ⟨_, by omega, rfl, by omega, p'⟩, ?_⟩
    rintro y H2 ⟨rfl, c, hc, rfl⟩
    exact hs C i c H2 hC hc p
  · have e : i = x.cps.size := by omega
    subst e
    exact .inl ⟨Nat.le_refl _, hd C H' hC p⟩

local macro_rules | `(tactic| walk_at "z") => `(tactic| with_reducible first
  | refine z_kinT ?_ | refine z_koutT ?_ | refine z_kixT ?_ | refine z_kst ?_ | refine z_forTx ?_ | refine z_asgG ?_ | (refine z_trM ?_; intro _) | refine z_ord ?_ | refine z_isss ?_ | refine z_issb ?_ | refine z_isis ?_ | refine z_isbs ?_ | refine z_lcTx ?_)

/-! ### in, not in of an own instance; methods that raise; raise with a value -/
def uInO (c : CEnv) (x : Str) (sp : Sp) : R2 := fun u v H Q => ∃ b dx fs, v = .ref b ∧ H b = some (.ins (c.cls x) dx fs) ∧ sp [.ref b, u] H (fun z H' => ∃ k, z = .bl k ∧ Q (.bl k) H') E0
def uOutO (c : CEnv) (x : Str) (sp : Sp) : R2 := fun u v H Q => ∃ b dx fs, v = .ref b ∧ H b = some (.ins (c.cls x) dx fs) ∧ sp [.ref b, u] H (fun z H' => ∃ k, z = .bl k ∧ Q (.bl (!k)) H') E0
section
variable {X : Cx} {c : CEnv} {k : Nat} {x m : Str} {ps gs : List Str} {sp : Sp} {W : WX} {p pos apos : Pos} {e o : Expr} {es : List Expr} {t tk : TA} {ta : TE}
theorem op_inO (CF : ClsF X.K X.mg c x gs) (M : Mth X.prog X.w X.K X.mg X.base k (c.cls x) "__contains__" ps sp) (hr : Room k X.A) : OpR X (compareOp .In) (uInO c x sp) := by
  intro pins s σ H u v y z Q I rx ry hq
  obtain ⟨f, fd, hM, hb, F⟩ := M.ex
  obtain ⟨b, dx, fs, rfl, ha, q⟩ := hq
  cases ry
  obtain ⟨mA, J, _⟩ := ins_get I.hok ha
  obtain ⟨od, J, _⟩ := J.look
  obtain ⟨m, hF⟩ := I.fr
  refine PySem.W.in_K hF I.ok.mod.kin J hM.at_ hM.fn ?_
  have r2 : Vals [V.ref b, u] [Value.ref b, y] := .cons rfl (.cons rx .nil)
  refine thn (run_fn (Q := fun z H' => ∃ k, z = .bl k ∧ Q (.bl k) H') (E := E0) (dvs := []) F hr hb .nil pass0 I r2 (by simpa using q)) fun w s' hw => ?_
  obtain ⟨zv, H', I', rz, kk, ez, q'⟩ := hw
  subst ez
  have rz2 : w = Value.bool kk := rz
  subst rz2
  exact wpAny_truthy_bool ⟨.bl kk, H', I', rfl, q'⟩
theorem op_outO (CF : ClsF X.K X.mg c x gs) (M : Mth X.prog X.w X.K X.mg X.base k (c.cls x) "__contains__" ps sp) (hr : Room k X.A) : OpR X (compareOp .NotIn) (uOutO c x sp) := by
  intro pins s σ H u v y z Q I rx ry hq
  obtain ⟨f, fd, hM, hb, F⟩ := M.ex
  obtain ⟨b, dx, fs, rfl, ha, q⟩ := hq
  cases ry
  obtain ⟨mA, J, _⟩ := ins_get I.hok ha
  obtain ⟨od, J, _⟩ := J.look
  obtain ⟨m, hF⟩ := I.fr
  refine PySem.W.notIn_K hF I.ok.mod.kin J hM.at_ hM.fn ?_
  have r2 : Vals [V.ref b, u] [Value.ref b, y] := .cons rfl (.cons rx .nil)
  refine thn (run_fn (Q := fun z H' => ∃ k, z = .bl k ∧ Q (.bl (!k)) H') (E := E0) (dvs := []) F hr hb .nil pass0 I r2 (by simpa using q)) fun w s' hw => ?_
  obtain ⟨zv, H', I', rz, kk, ez, q'⟩ := hw
  subst ez
  have rz2 : w = Value.bool kk := rz
  subst rz2
  exact wpAny_truthy_bool ⟨.bl (!kk), H', I', rfl, q'⟩
theorem z_methX {pl : Sem Bool} (he : PE X o ta) (CF : ClsF X.K X.mg c x gs) (M : MthX X.prog X.w X.K X.mg X.base k (c.cls x) m ps sp) (hx : ∀ σ, PassesAt (L2.CX X.prog X.w) X σ (WE W σ)) (hr : Room k X.A) (ha : PA X (e :: es) t)
    (hst : starEach (e :: es) X.env = (false, eval e X.env) :: starEach es X.env := by rfl) (hpl : (backTo pos (starEach es X.env)).any (·.1) = false := by rfl)
    (ht : eval (.Call (.Attribute o m apos) (e :: es) [] pos) X.env = (do
      let ov ← eval o X.env
      standAt apos.atName
      let (f, first) ← holding [ov] (getMethod ov m pl)
      callWith pos f first (backTo pos (starEach (e :: es) X.env)) (backToKw pos (keywordEach [] X.env))) := by rfl) : PE X (.Call (.Attribute o m apos) (e :: es) [] pos) (tMtX c x m sp W ta t) := by
  obtain ⟨f, fd, hM, hb, F⟩ := M.ex
  refine ⟨fun pins s σ H Q I h => ?_⟩
  refine PySem.W.methodCall_KW (pl := pl) (thn (he.run pins s σ H _ I h) fun u s1 ⟨x, H1, I1, rx, a, dx, fs, ex, ea, l, q⟩ => ?_) ht
  subst ex
  obtain rfl : u = Value.ref a := rx
  refine getmeth_ok I1 ea CF.ok.cl hM l ?_
  refine PySem.W.callWith_K (first := [.ref a]) (h₀ := X.base) I.ok.mod.kin hM.kp (thn (ha.run pos pins s1 σ H1 _ I1 q) fun us s2 ⟨vs, H2, I2, r, q2⟩ => ⟨I2.kIn, ?_⟩) hst hpl
  exact run_fnS (us := .ref a :: us) (vs := .ref a :: vs) F hr hb (hx σ) I2 (.cons rfl r) q2
theorem z_methX0 {pl : Sem Bool} (he : PE X o ta) (CF : ClsF X.K X.mg c x gs) (M : MthX X.prog X.w X.K X.mg X.base k (c.cls x) m ps sp) (hx : ∀ σ, PassesAt (L2.CX X.prog X.w) X σ (WE W σ)) (hr : Room k X.A)
    (ht : eval (.Call (.Attribute o m apos) [] [] pos) X.env = (do
      let ov ← eval o X.env
      standAt apos.atName
      let (f, first) ← holding [ov] (getMethod ov m pl)
      callWith pos f first (backTo pos (starEach [] X.env)) (backToKw pos (keywordEach [] X.env))) := by rfl) : PE X (.Call (.Attribute o m apos) [] [] pos) (tMtX c x m sp W ta tNil) := by
  obtain ⟨f, fd, hM, hb, F⟩ := M.ex
  refine ⟨fun pins s σ H Q I h => ?_⟩
  refine PySem.W.methodCall_KW (pl := pl) (thn (he.run pins s σ H _ I h) fun u s1 ⟨x, H1, I1, rx, a, dx, fs, ex, ea, l, q⟩ => ?_) ht
  subst ex
  obtain rfl : u = Value.ref a := rx
  refine getmeth_ok I1 ea CF.ok.cl hM l ?_
  exact PySem.W.callWith_K0 (first := [.ref a]) I1.kIn hM.kp (run_fnS (us := [.ref a]) (vs := [.ref a]) F hr hb (hx σ) I1 (.cons rfl .nil) q)
end
def sRaiseA (c : CEnv) (x : Str) (te : TE) (W : WX) : TS := fun _ σ H => te σ H fun _ H1 => W (.ref (c.cls x)) none σ H1
theorem z_raiseA {X : Cx} {c : CEnv} {x : Str} {W : WX} {e : Expr} {te : TE} {p pos pos' : Pos} (hc : X.calm = true) (E : ExcF X.K X.mg c x) (tk : Takes X W) (hg : Gl X x) (he : PE X e te) (hs : starEach [e] X.env = (false, eval e X.env) :: starEach [] X.env := by rfl) (hdb : (x == ("__debug__" : Str)) = false := by decide) : PS X (.Raise (some (.Call (.Name x p) [e] [] pos)) none pos') (sRaiseA c x te W) :=
  ps_raise hc tk (SkE.pmk_own1 F.excBase_ValueError E.q E.mg E.kp (raises_own E.sb E.ty) hg he hs hdb)
theorem z_rsa {c : CEnv} {x : Str} {te : TE} {W : WX} {D : Ends} {σ : L2.St} {H : Hp} (k : te σ H fun _ H1 => W (.ref (c.cls x)) none σ H1) : sRaiseA c x te W D σ H := k
/-- a flat value is equal to itself -/
theorem z_neSelf {K : PySem.W.Frag} {v : V} {H : Hp} {Q : VK} (h : flatV v = true) (k : Q (.bl false) H) : uNe K v v H Q := by
  cases v <;> first | (cases h; done) | skip
  · exact z_neN k
  · refine z_neB ?_; rw [decide_eq_true rfl]; exact k
  · refine z_ne ?_; rw [decide_eq_true rfl]; exact k
  · refine z_neS ?_; rw [decide_eq_true rfl]; exact k

local macro_rules | `(tactic| walk_at "z") => `(tactic| with_reducible first
  | refine z_rsa ?_)

/-! ### str of an integer or a text -/
def uStr : List V → Hp → VK → Prop := fun vs H Q => match vs with
  | [.int i] => i.natAbs.log2 < 1920 ∧ Q (.str (toString i)) H
  | [.str x] => Q (.str x) H
  | _ => False
theorem call_uStr {X : Cx} : CallR X (.type "str") uStr := by
  intro pins s σ H vs us Q I r h
  rcases vs with _ | ⟨x, _ | ⟨y, t⟩⟩
  · exact h.elim
  · cases x <;> first | exact h.elim | skip
    · exact call_str_int pins s σ H _ _ Q I r ⟨_, rfl, h⟩
    · exact SkE.call_str_str pins s σ H _ _ Q I r ⟨_, rfl, h⟩
  · cases x <;> exact h.elim
theorem z_strI {i : Int} {H : Hp} {Q : VK} (h : -1000000 ≤ i ∧ i ≤ 1000000) (k : Q (.str (toString i)) H) : uStr [.int i] H Q := by
  refine ⟨?_, k⟩
  rcases Nat.eq_zero_or_pos i.natAbs with z | z
  · rw [z]; decide
  · have : i.natAbs < 2 ^ 1920 := Nat.lt_of_le_of_lt (show i.natAbs ≤ 1000000 by omega) (Nat.lt_of_lt_of_le (show 1000000 < 2 ^ 20 by decide) (Nat.pow_le_pow_right (by decide) (by decide)))
    exact (Nat.log2_lt (by omega)).mpr this

/-! ### the root -/
def rootN : Nat → Nat
  | 0 => 0
  | n + 1 => if (rootN n + 1) * (rootN n + 1) ≤ n + 1 then rootN n + 1 else rootN n
theorem rootN_spec (n : Nat) : rootN n * rootN n ≤ n ∧ n < (rootN n + 1) * (rootN n + 1) := by
  induction n with
  | zero => exact ⟨Nat.le_refl _, by decide⟩
  | succ n ih =>
    obtain ⟨h1, h2⟩ := ih
    unfold rootN
    split
    · rename_i h
      refine ⟨h, ?_⟩
      generalize rootN n = r at *
      have e : (r + 1 + 1) * (r + 1 + 1) = (r + 1) * (r + 1) + 2 * (r + 1) + 1 := by
        simp only [Nat.add_mul, Nat.mul_add]; omega
      omega
    · rename_i h
      refine ⟨by omega, by omega⟩
def rootZ (n : Int) : Int := (rootN n.toNat : Nat)
theorem rootZ_nn (n : Int) : 0 ≤ rootZ n := Int.natCast_nonneg _
theorem rootZ_spec {n : Int} (h : 0 ≤ n) : rootZ n * rootZ n ≤ n ∧ n < (rootZ n + 1) * (rootZ n + 1) := by
  have s := rootN_spec n.toNat
  unfold rootZ
  generalize rootN n.toNat = r at *
  have e : ((n.toNat : Nat) : Int) = n := Int.toNat_of_nonneg h
  constructor
  · have := Int.ofNat_le.mpr s.1
    rw [← e]; push_cast at this ⊢; exact this
  · have := Int.ofNat_lt.mpr s.2
    rw [← e]; push_cast at this ⊢; exact this
theorem sq_lt {a b : Int} (h0 : 0 ≤ a) (hb : 0 ≤ b) (h : a * a < b * b) : a < b := by
  rcases Int.lt_or_le a b with h1 | h1
  · exact h1
  · have := Int.mul_le_mul h1 h1 hb h0
    omega
theorem rootZ_uniq {n r : Int} (h0 : 0 ≤ r) (h1 : r * r ≤ n) (h2 : n < (r + 1) * (r + 1)) : r = rootZ n := by
  have hn : 0 ≤ n := Int.le_trans (Int.mul_nonneg h0 h0) h1
  obtain ⟨s1, s2⟩ := rootZ_spec hn
  have s0 := rootZ_nn n
  have a := sq_lt h0 (by omega) (Int.lt_of_le_of_lt h1 s2)
  have b := sq_lt s0 (by omega) (Int.lt_of_le_of_lt s1 h2)
  omega
theorem rootZ_neg {n : Int} (h : n < 0) : rootZ n = 0 := by
  unfold rootZ
  rw [Int.toNat_of_nonpos (by omega)]; rfl
/-- a factor is short when its square is -/
theorem mul_sq {a n : Int} {b : Nat} (h0 : 0 ≤ a) (h : a * a ≤ n) (hn : n < 2 ^ b) (hb : 0 < b ∧ b ≤ 400000) : MulOk a a := by
  have h1 : a.natAbs < 2 ^ b := by
    have h3 : a ≤ a * a := by
      rcases Int.lt_or_le a 1 with z | z
      · have : a = 0 := by omega
        subst this; simp
      · have := Int.mul_le_mul_of_nonneg_right z h0
        omega
    have h4 : ((2 ^ b : Nat) : Int) = (2 : Int) ^ b := by simp
    omega
  exact .inr (wide_mul h1 h1 hb.1 hb.1 (by omega))
-- root(number): slots 0:number 1:low 2:high 3:middle
def T_root_b1 (K : PySem.W.Frag) : TS :=
    (tAsg (tOp uMul (tVar 2) (tC (.int 2))) (gName 2))
def T_root_b2 (K : PySem.W.Frag) : TS :=
    (tSeq (tAsg (tOp uDiv (tOp (uAdd K) (tVar 1) (tVar 2)) (tC (.int 2))) (gName 3))
    (tIfS (tTest (tOp uLe (tOp uMul (tVar 3) (tVar 3)) (tVar 0))) (tAsg (tVar 3) (gName 1)) (tAsg (tVar 3) (gName 2))))
def T_root (K : PySem.W.Frag) : TS :=
    (tSeq (tAsg (tC (.int 0)) (gName 1))
    (tSeq (tAsg (tC (.int 1)) (gName 2))
    (tSeq (tWhile (tTest (tOp uLe (tOp uMul (tVar 2) (tVar 2)) (tVar 0))) (T_root_b1 K))
    (tSeq (tWhile (tTest (tOp uGt (tOp uSub (tVar 2) (tVar 1)) (tC (.int 1)))) (T_root_b2 K))
    (tRet (tVar 1))))))
def sp_root (K : PySem.W.Frag) : Sp := fun vs H Q _ => ∃ n : Int, vs = [.int n] ∧ n < 2 ^ 100000 ∧ Q (.int (rootZ n)) H
theorem r_root {K : PySem.W.Frag} {n : Int} {H : Hp} {D : Ends} (hn : n < 2 ^ 100000) (k : D.rt (.int (rootZ n)) H) : T_root K D [some (.int n), none, none, none] H := by
  unfold T_root
  walk_at "zz"
  have p2 : (2 : Int) ^ 100000 > 0 := Int.pow_pos (by decide)
  have pe : (2 : Int) ^ 100000 * 4 + 1 < 2 ^ 100003 := by
    have : (2 : Int) ^ 100003 = 2 ^ 100000 * 8 := by rw [show (100003 : Nat) = 100000 + 3 from rfl, Int.pow_add]; rfl
    omega
  generalize hM : (2 : Int) ^ 100000 = M at *
  refine z_while (fun m σ H' => H = H' ∧ ∃ h : Int, σ = [some (.int n), some (.int 0), some (.int h), none] ∧ 1 ≤ h ∧ (h = 1 ∨ h * h ≤ 4 * n) ∧ m = (n + 1 - h).toNat) (n + 1 - 1).toNat ⟨rfl, 1, rfl, by decide, .inl rfl, rfl⟩ ?_
  rintro m σ H' ⟨rfl, h, rfl, h1, h2, rfl⟩
  walk_at "zz"
  refine z_mul ?_ ?_
  · have : h * h ≤ 4 * M + 1 := by
      rcases h2 with rfl | h2 <;> omega
    exact mul_sq (n := h * h) (b := 100003) (by omega) (Int.le_refl _) (by omega) (by decide)
  walk_at "zz"
  refine z_itD (fun c => z_turn ?_) (fun c => ?_)
  · unfold T_root_b1
    walk_at "zz"
    have h3 : h ≤ n := by
      have := Int.mul_le_mul_of_nonneg_left h1 (show 0 ≤ h by omega)
      omega
    refine ⟨_, ?_, rfl, h * 2, rfl, by omega, .inr ?_, rfl⟩
    · omega
    · have : h * 2 * (h * 2) = 4 * (h * h) := by
        rw [Int.mul_assoc, Int.mul_left_comm 2 h 2, ← Int.mul_assoc, Int.mul_comm (h * h)]; rfl
      omega
  walk_at "zz"
  refine z_while (fun m σ H' => H = H' ∧ ∃ (lo hi : Int) (v : Option V), σ = [some (.int n), some (.int lo), some (.int hi), v] ∧ 0 ≤ lo ∧ lo < hi ∧ n < hi * hi ∧ (0 ≤ n → lo * lo ≤ n) ∧ hi ≤ h ∧ m = (hi - lo).toNat) (h - 0).toNat ⟨rfl, 0, h, none, rfl, by omega, by omega, by omega, fun z => by omega, Int.le_refl _, rfl⟩ ?_
  rintro m σ H' ⟨rfl, lo, hi, v, rfl, g1, g2, g3, g4, g5, rfl⟩
  walk_at "zz"
  refine z_itD (fun c2 => z_turn ?_) (fun c2 => ?_)
  · unfold T_root_b2
    walk_at "zz"
    have e1 : lo < (lo + hi) / 2 := by omega
    have e2 : (lo + hi) / 2 < hi := by omega
    generalize (lo + hi) / 2 = md at *
    have hm : md * md ≤ h * h := Int.mul_le_mul (by omega) (by omega) (by omega) (by omega)
    refine z_mul ?_ ?_
    · refine mul_sq (n := h * h) (b := 100003) (by omega) hm ?_ (by decide)
      rcases h2 with rfl | h2 <;> omega
    walk_at "zz"
    refine z_itD (fun c3 => ?_) (fun c3 => ?_)
    · walk_at "zz"
      exact ⟨_, by omega, rfl, md, hi, _, rfl, by omega, by omega, g3, fun _ => c3, g5, rfl⟩
    · walk_at "zz"
      exact ⟨_, by omega, rfl, lo, md, _, rfl, by omega, by omega, by omega, g4, by omega, rfl⟩
  · walk_at "zz"
    have e : hi = lo + 1 := by omega
    subst e
    rcases Int.lt_or_le n 0 with hz | hz
    · have : lo = 0 := by
        rcases h2 with rfl | h2
        · omega
        · exfalso
          have := Int.mul_nonneg (show 0 ≤ h by omega) (show 0 ≤ h by omega)
          omega
      subst this
      rw [rootZ_neg hz] at k
      exact k
    · rw [← rootZ_uniq g1 (g4 hz) g3] at k
      exact k
theorem root_c {K : PySem.W.Frag} {n : Int} {H : Hp} {Q : VK} {E : XK} (hn : n < 2 ^ 100000) (k : Q (.int (rootZ n)) H) : sp_root K [.int n] H Q E := ⟨n, rfl, hn, k⟩
-- gap(far, near): slots 0:far 1:near
def T_gap (K : PySem.W.Frag) : TS :=
    (tSeq (tIfS (tTest (tOp uGe (tVar 1) (tVar 0))) (tRet (tC (.int 0))) tNext)
    (tRet (tOp uSub (tOp (uAdd K) (tVar 0) (tVar 1)) (tCal (sp_root K) (tCons (tOp uMul (tOp uMul (tC (.int 4)) (tVar 0)) (tVar 1)) tNil)))))
def gapZ (far near : Int) : Int := if near ≥ far then 0 else far + near - rootZ (4 * far * near)
def Short (a : Int) : Prop := a.natAbs < 2 ^ 40000
theorem Short.mul {a b : Int} (ha : Short a) (hb : Short b) : MulOk a b := .inr (wide_mul ha hb (by decide) (by decide) (by decide))
theorem pow_le_pow {a b : Nat} (h : a ≤ b) : (2 : Nat) ^ a ≤ 2 ^ b := Nat.pow_le_pow_right (by decide) h
theorem Short.of {a : Int} {b : Nat} (h : a.natAbs < 2 ^ b) (hb : b ≤ 40000) : Short a := Nat.lt_of_lt_of_le h (pow_le_pow hb)
theorem Short.four {a : Int} (ha : Short a) : (4 * a).natAbs < 2 ^ 40003 := by
  rw [Int.natAbs_mul, show (40003 : Nat) = 3 + 40000 from rfl, Nat.pow_add]
  exact Nat.mul_lt_mul'' (by decide) ha
theorem Short.mul4 {a b : Int} (ha : Short a) (hb : Short b) : MulOk (4 * a) b := .inr (wide_mul ha.four hb (by decide) (by decide) (by decide))
theorem mul4 {a b : Int} (ha : Short a) (hb : Short b) : 4 * a * b < 2 ^ 100000 := by
  have h1 : (4 * a * b).natAbs < 2 ^ (3 + 40000 + 40000) := by
    rw [Int.natAbs_mul, Int.natAbs_mul, Nat.pow_add, Nat.pow_add]
    exact Nat.mul_lt_mul'' (Nat.mul_lt_mul'' (by decide) ha) hb
  have h2 : (2 : Nat) ^ (3 + 40000 + 40000) ≤ 2 ^ 100000 := pow_le_pow (by decide)
  have h3 : ((2 ^ 100000 : Nat) : Int) = (2 : Int) ^ 100000 := by rw [Int.natCast_pow]; rfl
  rw [← h3]
  generalize (2 : Nat) ^ 100000 = M at *
  generalize (2 : Nat) ^ (3 + 40000 + 40000) = M2 at *
  omega
def sp_gap (K : PySem.W.Frag) : Sp := fun vs H Q _ => ∃ far near : Int, vs = [.int far, .int near] ∧ Short far ∧ Short near ∧ Q (.int (gapZ far near)) H
theorem r_gap {K : PySem.W.Frag} {far near : Int} {H : Hp} {D : Ends} (h1 : Short far) (h2 : Short near) (k : D.rt (.int (gapZ far near)) H) : T_gap K D [some (.int far), some (.int near)] H := by
  unfold T_gap
  walk_at "zz"
  refine z_itD (fun c => ?_) (fun c => ?_)
  · walk_at "zz"
    rw [show gapZ far near = 0 from if_pos c] at k
    exact k
  · walk_at "zz"
    refine z_mul ?_ ?_
    · exact Short.mul4 h1 h2
    walk_at "zz"
    refine root_c (mul4 h1 h2) ?_
    walk_at "zz"
    rw [show gapZ far near = far + near - rootZ (4 * far * near) from if_neg c] at k
    exact k
abbrev N_root : List Str := ["number", "low", "high", "middle"]
theorem w_root {K : PySem.W.Frag} : Wd (T_root K) N_root 1 (sp_root K) := fun vs H Q E h => by
  obtain ⟨n, rfl, hn, k⟩ := h
  exact ⟨rfl, r_root hn k⟩
abbrev N_gap : List Str := ["far", "near"]
theorem w_gap {K : PySem.W.Frag} : Wd (T_gap K) N_gap 2 (sp_gap K) := fun vs H Q E h => by
  obtain ⟨far, near, rfl, h1, h2, k⟩ := h
  exact ⟨rfl, r_gap h1 h2 k⟩

/-! ### vectors -/
def innerZ : List Int → List Int → Int
  | x :: xs, y :: ys => x * y + innerZ xs ys
  | _, _ => 0
def distZ : List Int → List Int → Int
  | x :: xs, y :: ys => (x - y) * (x - y) + distZ xs ys
  | _, _ => 0
def diffZ : List Int → List Int → Int
  | x :: xs, y :: ys => (if x = y then 0 else 1) + diffZ xs ys
  | _, _ => 0
theorem sq_nn (x : Int) : 0 ≤ x * x := by
  rcases Int.le_total 0 x with h | h
  · exact Int.mul_nonneg h h
  · exact Int.mul_nonneg_of_nonpos_of_nonpos h h
theorem distZ_nn : ∀ a b : List Int, 0 ≤ distZ a b
  | x :: xs, y :: ys => Int.add_nonneg (sq_nn _) (distZ_nn xs ys)
  | [], _ => Int.le_refl 0
  | _ :: _, [] => Int.le_refl 0
theorem distZ_comm : ∀ a b : List Int, distZ a b = distZ b a
  | x :: xs, y :: ys => by
    show (x - y) * (x - y) + _ = (y - x) * (y - x) + _
    rw [distZ_comm xs ys, show x - y = -(y - x) by omega, Int.neg_mul_neg]
  | [], [] => rfl
  | [], _ :: _ => rfl
  | _ :: _, [] => rfl
theorem take_s {xs : List Int} {i : Nat} (h : i < xs.length) : xs.take (i + 1) = xs.take i ++ [xs.getD i 0] := by
  rw [List.take_succ, List.getElem?_eq_getElem h]
  simp [List.getD, h]
theorem distZ_app : ∀ (a b : List Int) (x y : Int), a.length = b.length → distZ (a ++ [x]) (b ++ [y]) = distZ a b + (x - y) * (x - y)
  | [], [], x, y, _ => by show (x - y) * (x - y) + 0 = 0 + (x - y) * (x - y); omega
  | [], _ :: _, _, _, h => by cases h
  | _ :: _, [], _, _, h => by cases h
  | u :: a, v :: b, x, y, h => by
    show (u - v) * (u - v) + distZ (a ++ [x]) (b ++ [y]) = (u - v) * (u - v) + distZ a b + (x - y) * (x - y)
    rw [distZ_app a b x y (by simpa using h)]; omega
theorem innerZ_app : ∀ (a b : List Int) (x y : Int), a.length = b.length → innerZ (a ++ [x]) (b ++ [y]) = innerZ a b + x * y
  | [], [], x, y, _ => by show x * y + 0 = 0 + x * y; omega
  | [], _ :: _, _, _, h => by cases h
  | _ :: _, [], _, _, h => by cases h
  | u :: a, v :: b, x, y, h => by
    show u * v + innerZ (a ++ [x]) (b ++ [y]) = u * v + innerZ a b + x * y
    rw [innerZ_app a b x y (by simpa using h)]; omega
theorem diffZ_app : ∀ (a b : List Int) (x y : Int), a.length = b.length → diffZ (a ++ [x]) (b ++ [y]) = diffZ a b + (if x = y then 0 else 1)
  | [], [], x, y, _ => by show (if x = y then (0 : Int) else 1) + 0 = 0 + (if x = y then 0 else 1); omega
  | [], _ :: _, _, _, h => by cases h
  | _ :: _, [], _, _, h => by cases h
  | u :: a, v :: b, x, y, h => by
    show (if u = v then (0 : Int) else 1) + diffZ (a ++ [x]) (b ++ [y]) = (if u = v then 0 else 1) + diffZ a b + (if x = y then 0 else 1)
    rw [diffZ_app a b x y (by simpa using h)]; omega
theorem distZ_take {a b : List Int} {i : Nat} (h : a.length = b.length) (hi : i < a.length) : distZ (a.take (i + 1)) (b.take (i + 1)) = distZ (a.take i) (b.take i) + (a.getD i 0 - b.getD i 0) * (a.getD i 0 - b.getD i 0) := by
  rw [take_s hi, take_s (h ▸ hi), distZ_app _ _ _ _ (by simp [h])]
theorem innerZ_take {a b : List Int} {i : Nat} (h : a.length = b.length) (hi : i < a.length) : innerZ (a.take (i + 1)) (b.take (i + 1)) = innerZ (a.take i) (b.take i) + a.getD i 0 * b.getD i 0 := by
  rw [take_s hi, take_s (h ▸ hi), innerZ_app _ _ _ _ (by simp [h])]
theorem diffZ_take {a b : List Int} {i : Nat} (h : a.length = b.length) (hi : i < a.length) : diffZ (a.take (i + 1)) (b.take (i + 1)) = diffZ (a.take i) (b.take i) + (if a.getD i 0 = b.getD i 0 then 0 else 1) := by
  rw [take_s hi, take_s (h ▸ hi), diffZ_app _ _ _ _ (by simp [h])]
/-- all within b of nought -/
def Bd (b : Int) (ns : List Int) : Prop := ∀ x ∈ ns, -b ≤ x ∧ x ≤ b
theorem Bd.app {b x : Int} {ns : List Int} (h : Bd b ns) (h1 : -b ≤ x) (h2 : x ≤ b) : Bd b (ns ++ [x]) := fun y hy => by
  rcases List.mem_append.mp hy with hy | hy
  · exact h y hy
  · rw [List.mem_singleton.mp hy]; exact ⟨h1, h2⟩
theorem Bd.mono {b c : Int} {ns : List Int} (h : Bd b ns) (hbc : b ≤ c) : Bd c ns := fun y hy => by have := h y hy; omega
theorem getD_mem {ns : List Int} {i : Nat} (h : i < ns.length) : ns.getD i 0 ∈ ns := by
  rw [List.getD_eq_getElem?_getD, List.getElem?_eq_getElem h]; exact List.getElem_mem h
theorem Bd.at {b : Int} {ns : List Int} (h : Bd b ns) {i : Nat} (hi : i < ns.length) : -b ≤ ns.getD i 0 ∧ ns.getD i 0 ≤ b := h _ (getD_mem hi)
theorem sq_le {x b : Int} (h1 : -b ≤ x) (h2 : x ≤ b) : x * x ≤ b * b := by
  rcases Int.le_total 0 x with h | h
  · exact Int.mul_le_mul h2 h2 h (by omega)
  · have := Int.mul_le_mul (show -x ≤ b by omega) (show -x ≤ b by omega) (show 0 ≤ -x by omega) (show 0 ≤ b by omega)
    rw [Int.neg_mul_neg] at this; exact this
theorem distZ_le {b : Int} : ∀ {xs ys : List Int}, Bd b xs → Bd b ys → distZ xs ys ≤ xs.length * (4 * (b * b))
  | [], _, _, _ => by simp [distZ]
  | x :: xs, [], _, _ => by
    have := sq_nn b
    show (0 : Int) ≤ _
    exact Int.mul_nonneg (Int.natCast_nonneg _) (by omega)
  | x :: xs, y :: ys, h1, h2 => by
    have ih := distZ_le (b := b) (fun z hz => h1 z (List.mem_cons_of_mem _ hz)) (fun z hz => h2 z (List.mem_cons_of_mem _ hz)) (xs := xs) (ys := ys)
    have a := h1 x List.mem_cons_self
    have c := h2 y List.mem_cons_self
    have e := sq_le (x := x - y) (b := 2 * b) (by omega) (by omega)
    have e2 : 2 * b * (2 * b) = 4 * (b * b) := by rw [Int.mul_assoc, Int.mul_left_comm b 2 b, ← Int.mul_assoc]; rfl
    show (x - y) * (x - y) + distZ xs ys ≤ ((xs.length + 1 : Nat) : Int) * (4 * (b * b))
    rw [Int.natCast_add, Int.add_mul]
    generalize (xs.length : Int) * (4 * (b * b)) = u at *
    generalize b * b = v at *
    omega
/-- the quadratic form of two vectors -/
theorem quad : ∀ (a b : List Int) (l m : Int), a.length = b.length → 0 ≤ l * l * innerZ a a + 2 * (l * m) * innerZ a b + m * m * innerZ b b
  | [], [], l, m, _ => by show 0 ≤ l * l * 0 + 2 * (l * m) * 0 + m * m * 0; simp
  | [], _ :: _, _, _, h => by cases h
  | _ :: _, [], _, _, h => by cases h
  | x :: a, y :: b, l, m, h => by
    have ih := quad a b l m (by simpa using h)
    have s := sq_nn (l * x + m * y)
    show 0 ≤ l * l * (x * x + innerZ a a) + 2 * (l * m) * (x * y + innerZ a b) + m * m * (y * y + innerZ b b)
    have e : (l * x + m * y) * (l * x + m * y) = l * l * (x * x) + 2 * (l * m) * (x * y) + m * m * (y * y) := by
      have e1 : l * x * (l * x) = l * l * (x * x) := by ac_rfl
      have e2 : l * x * (m * y) = l * m * (x * y) := by ac_rfl
      have e3 : m * y * (l * x) = l * m * (x * y) := by ac_rfl
      have e4 : m * y * (m * y) = m * m * (y * y) := by ac_rfl
      rw [Int.add_mul, Int.mul_add, Int.mul_add, e1, e2, e3, e4, Int.mul_assoc 2]
      omega
    rw [e] at s
    simp only [Int.mul_add]
    omega
theorem inner_sq_nn : ∀ a : List Int, 0 ≤ innerZ a a
  | [] => Int.le_refl 0
  | x :: a => Int.add_nonneg (sq_nn x) (inner_sq_nn a)
/-- Cauchy, Schwarz -/
theorem cauchy {a b : List Int} (h : a.length = b.length) : innerZ a b * innerZ a b ≤ innerZ a a * innerZ b b := by
  have hA := inner_sq_nn a
  have hB := inner_sq_nn b
  have q1 := quad a b (innerZ b b) (-innerZ a b) h
  have q2 := quad a b (innerZ a b) (-(innerZ a a + 1)) h
  generalize innerZ a a = A at *
  generalize innerZ b b = B at *
  generalize innerZ a b = S at *
  rcases Int.lt_or_le 0 B with z | z
  · have e : B * B * A + 2 * (B * -S) * S + -S * -S * B = B * (A * B - S * S) := by
      have e1 : B * B * A = B * (A * B) := by ac_rfl
      have e2 : 2 * (B * -S) * S = -(2 * (B * (S * S))) := by
        rw [Int.mul_neg, Int.mul_neg, Int.neg_mul]; congr 1; ac_rfl
      have e3 : -S * -S * B = B * (S * S) := by rw [Int.neg_mul_neg]; ac_rfl
      rw [e1, e2, e3, Int.mul_sub]; omega
    rw [e] at q1
    have : 0 ≤ A * B - S * S := by
      rcases Int.lt_or_le (A * B - S * S) 0 with n | n
      · have := Int.mul_neg_of_pos_of_neg z n
        omega
      · exact n
    omega
  · have hB0 : B = 0 := by omega
    subst hB0
    have e : S * S * A + 2 * (S * -(A + 1)) * S + -(A + 1) * -(A + 1) * 0 = -(S * S * (A + 2)) := by
      have e1 : 2 * (S * -(A + 1)) * S = -(2 * (S * S * (A + 1))) := by
        rw [Int.mul_neg, Int.mul_neg, Int.neg_mul]; congr 1; ac_rfl
      rw [e1, Int.mul_zero]; simp only [Int.mul_add]; omega
    rw [e] at q2
    have s0 := sq_nn S
    rw [Int.mul_zero]
    rcases Int.lt_or_le 0 (S * S) with n | n
    · have := Int.mul_pos n (show 0 < A + 2 by omega)
      omega
    · exact n
/-- the distances of three points -/
theorem dist3 : ∀ (a b c : List Int), a.length = b.length → b.length = c.length → ∃ x y : List Int, x.length = y.length ∧ distZ a b = innerZ x x ∧ distZ b c = innerZ y y ∧ distZ a c = innerZ x x + innerZ y y + 2 * innerZ x y
  | [], [], [], _, _ => ⟨[], [], rfl, rfl, rfl, rfl⟩
  | u :: a, v :: b, w :: c, h1, h2 => by
    obtain ⟨x, y, e0, e1, e2, e3⟩ := dist3 a b c (by simpa using h1) (by simpa using h2)
    refine ⟨(u - v) :: x, (v - w) :: y, by simp [e0], ?_, ?_, ?_⟩
    · show _ + _ = _ + _; rw [e1]
    · show _ + _ = _ + _; rw [e2]
    · show (u - w) * (u - w) + distZ a c = ((u - v) * (u - v) + innerZ x x) + ((v - w) * (v - w) + innerZ y y) + 2 * ((u - v) * (v - w) + innerZ x y)
      rw [e3, show u - w = (u - v) + (v - w) by omega]
      generalize u - v = p
      generalize v - w = q
      simp only [Int.add_mul, Int.mul_add, Int.mul_comm q p]
      omega
  | [], [], _ :: _, _, h => by cases h
  | [], _ :: _, _, h, _ => by cases h
  | _ :: _, [], _, h, _ => by cases h
  | _ :: _, _ :: _, [], _, h => by cases h
/-- the heart of the gap: with A, B, C the three distances -/
theorem gap_core {A B C far near : Int} (hC : 0 ≤ C) (hB : 0 ≤ B) (h4 : (C - A - B) * (C - A - B) ≤ 4 * (A * B)) (h1 : far ≤ A) (h2 : B ≤ near) (h3 : near < far) (t : 0 < far + near - C) :
    (far + near - C) * (far + near - C) ≤ 4 * (far * near) := by
  have id : ∀ u v : Int, 4 * (u * v) - (u + v - C) * (u + v - C) = 2 * (C * (u + v)) - (u - v) * (u - v) - C * C := fun u v => by
    simp only [Int.add_mul, Int.sub_mul, Int.mul_add, Int.mul_sub, Int.mul_comm v u, Int.mul_comm C u, Int.mul_comm C v]; omega
  have hAB : 0 ≤ 2 * (C * (A + B)) - (A - B) * (A - B) - C * C := by
    rw [← id A B]
    have : (C - A - B) * (C - A - B) = (A + B - C) * (A + B - C) := by
      rw [show C - A - B = -(A + B - C) by omega, Int.neg_mul_neg]
    omega
  have hn : 0 ≤ near := by omega
  have goal : 0 ≤ 2 * (C * (far + near)) - (far - near) * (far - near) - C * C := by
    rcases Int.lt_or_le C (far - near) with c | c
    · -- far from it: first from B to near, then from A to far
      have s1 : 0 ≤ 2 * (C * (A + near)) - (A - near) * (A - near) - C * C := by
        have m := Int.mul_nonneg (show 0 ≤ near - B by omega) (show 0 ≤ 2 * A - B - near + 2 * C by omega)
        have e : (near - B) * (2 * A - B - near + 2 * C) = (2 * (C * (A + near)) - (A - near) * (A - near)) - (2 * (C * (A + B)) - (A - B) * (A - B)) := by
          simp only [Int.add_mul, Int.sub_mul, Int.mul_add, Int.mul_sub, Int.mul_comm near A, Int.mul_comm B A, Int.mul_comm near B, Int.mul_comm C A, Int.mul_comm C B, Int.mul_comm C near, Int.mul_left_comm near 2, Int.mul_left_comm B 2]; omega
        omega
      have m := Int.mul_nonneg (show 0 ≤ A - far by omega) (show 0 ≤ A + far - 2 * near - 2 * C by omega)
      have e : (A - far) * (A + far - 2 * near - 2 * C) = (2 * (C * (far + near)) - (far - near) * (far - near)) - (2 * (C * (A + near)) - (A - near) * (A - near)) := by
        simp only [Int.add_mul, Int.sub_mul, Int.mul_add, Int.mul_sub, Int.mul_comm near A, Int.mul_comm far A, Int.mul_comm near far, Int.mul_comm C A, Int.mul_comm C far, Int.mul_comm C near, Int.mul_left_comm A 2, Int.mul_left_comm far 2]; omega
      omega
    · have m1 := Int.mul_nonneg hC (show 0 ≤ far + 3 * near - C by omega)
      have m2 := Int.mul_nonneg (show 0 ≤ far - near by omega) (show 0 ≤ C - (far - near) by omega)
      have e1 : C * (far + 3 * near - C) = 2 * (C * (far + near)) - C * (far - near) - C * C := by
        simp only [Int.mul_add, Int.mul_sub, Int.mul_left_comm C 3]; omega
      have e2 : (far - near) * (C - (far - near)) = C * (far - near) - (far - near) * (far - near) := by
        rw [Int.mul_sub, Int.mul_comm (far - near) C]
      omega
  have := id far near
  omega
theorem le_root {t n : Int} (h0 : 0 ≤ t) (h : t * t ≤ n) : t ≤ rootZ n := by
  obtain ⟨s1, s2⟩ := rootZ_spec (Int.le_trans (Int.mul_nonneg h0 h0) h)
  have := sq_lt h0 (show 0 ≤ rootZ n + 1 by have := rootZ_nn n; omega) (Int.lt_of_le_of_lt h s2)
  omega
theorem root_le {t n : Int} (h0 : 0 ≤ t) (hn : 0 ≤ n) (h : n ≤ t * t) : rootZ n ≤ t := by
  obtain ⟨s1, s2⟩ := rootZ_spec hn
  rcases Int.lt_or_le t (rootZ n) with z | z
  · have := Int.mul_lt_mul z (Int.le_of_lt z)
    exfalso
    have h3 : t * t < rootZ n * rootZ n := by
      have a := Int.mul_le_mul_of_nonneg_left (Int.le_of_lt z) h0
      have b := Int.mul_lt_mul_of_pos_right z (show 0 < rootZ n by omega)
      omega
    omega
  · exact z
theorem gap_nn {far near : Int} (h : 0 ≤ near) : 0 ≤ gapZ far near := by
  unfold gapZ
  split
  · exact Int.le_refl 0
  · rename_i h1
    have hf : 0 ≤ far := by omega
    have e : 4 * far * near = 4 * (far * near) := Int.mul_assoc _ _ _
    have p := Int.mul_nonneg hf h
    have : rootZ (4 * far * near) ≤ far + near := by
      refine root_le (by omega) (by omega) ?_
      have s := sq_nn (far - near)
      have e2 : (far + near) * (far + near) = (far - near) * (far - near) + 4 * (far * near) := by
        simp only [Int.add_mul, Int.sub_mul, Int.mul_add, Int.mul_sub, Int.mul_comm near far]; omega
      omega
    omega
theorem gap_safe {a b c : List Int} {far near : Int} (e1 : a.length = b.length) (e2 : b.length = c.length) (h1 : far ≤ distZ a b) (h2 : distZ b c ≤ near) : gapZ far near ≤ distZ a c := by
  have hC := distZ_nn a c
  have hB := distZ_nn b c
  unfold gapZ
  split
  · exact hC
  · rename_i h3
    obtain ⟨x, y, e0, eA, eB, eC⟩ := dist3 a b c e1 e2
    have cs := cauchy e0
    have e : 4 * far * near = 4 * (far * near) := Int.mul_assoc _ _ _
    have p := Int.mul_nonneg (show 0 ≤ far by omega) (show 0 ≤ near by omega)
    rcases Int.lt_or_le 0 (far + near - distZ a c) with t | t
    · have g := gap_core (A := distZ a b) (B := distZ b c) hC hB (by
        rw [eA, eB, eC]
        generalize innerZ x x = A at *
        generalize innerZ y y = B at *
        generalize innerZ x y = S at *
        rw [show A + B + 2 * S - A - B = 2 * S by omega]
        have : 2 * S * (2 * S) = 4 * (S * S) := by rw [Int.mul_assoc, Int.mul_left_comm S 2 S, ← Int.mul_assoc]; rfl
        omega) h1 h2 (by omega) t
      have := le_root (t := far + near - distZ a c) (n := 4 * far * near) (by omega) (by omega)
      omega
    · have := rootZ_nn (4 * far * near)
      omega

/-! ### data of ints -/
def dInts (ns : List Int) : List PyData := ns.map PyData.int
theorem dp_ints {K : PySem.W.Frag} {H : Hp} : ∀ ns : List Int, DpAll K H (ns.map V.int) (dInts ns)
  | [] => .nil
  | n :: ns => .cons (.int n) (dp_ints ns)
theorem lay_ints : ∀ ns : List Int, PyData.canLayAll0 (dInts ns) = true
  | [] => by simp only [dInts, List.map_nil, PyData.canLayAll0]
  | n :: ns => by
    have ih := lay_ints ns
    simp only [dInts, List.map_cons, PyData.canLayAll0, PyData.canLay0, Bool.true_and] at ih ⊢
    exact ih
theorem dep_ints : ∀ ns : List Int, PyData.depthAll (dInts ns) ≤ 1
  | [] => by simp only [dInts, List.map_nil, PyData.depthAll]; omega
  | n :: ns => by
    have ih := dep_ints ns
    simp only [dInts, List.map_cons, PyData.depthAll, PyData.depth] at ih ⊢
    omega
theorem shp_ints (ns : List Int) : SeqAt.shaped (.list (dInts ns)) = true := by
  unfold SeqAt.shaped
  rw [Bool.and_eq_true, decide_eq_true_eq]
  refine ⟨?_, ?_⟩
  · simp only [PyData.canLay0]; exact lay_ints ns
  · have := dep_ints ns
    simp only [PyData.depth]; omega
theorem shp_intsT (ns : List Int) : SeqAt.shaped (.tuple (dInts ns)) = true := by
  unfold SeqAt.shaped
  rw [Bool.and_eq_true, decide_eq_true_eq]
  refine ⟨?_, ?_⟩
  · simp only [PyData.canLay0]; exact lay_ints ns
  · have := dep_ints ns
    simp only [PyData.depth]; omega
theorem eqv_intsA : ∀ a b : List Int, PyData.eqvAll (dInts a) (dInts b) = decide (a = b)
  | [], [] => by simp only [dInts, List.map_nil, PyData.eqvAll]; rfl
  | [], _ :: _ => by simp only [dInts, List.map_nil, List.map_cons, PyData.eqvAll]; rfl
  | _ :: _, [] => by simp only [dInts, List.map_nil, List.map_cons, PyData.eqvAll]; rfl
  | x :: a, y :: b => by
    have ih := eqv_intsA a b
    simp only [dInts, List.map_cons, PyData.eqvAll, PyData.eqv] at ih ⊢
    rw [ih, Bool.eq_iff_iff]; simp
theorem eqv_ints (a b : List Int) : PyData.eqv (.list (dInts a)) (.list (dInts b)) = decide (a = b) := by
  simp only [PyData.eqv]; exact eqv_intsA a b
theorem z_neInts {K : PySem.W.Frag} {H : Hp} {Q : VK} {p r : Addr} {a b : List Int} (h1 : SqL K H p (a.map V.int)) (h2 : SqL K H r (b.map V.int)) (k : Q (.bl (!decide (a = b))) H) : uNe K (.ref p) (.ref r) H Q :=
  z_neD (.lst h1 (dp_ints a)) (.lst h2 (dp_ints b)) (shp_ints a) (shp_ints b) (by rw [eqv_ints]; exact k)
theorem z_eqInts {K : PySem.W.Frag} {H : Hp} {Q : VK} {p r : Addr} {a b : List Int} (h1 : SqL K H p (a.map V.int)) (h2 : SqL K H r (b.map V.int)) (k : Q (.bl (decide (a = b))) H) : uEq K (.ref p) (.ref r) H Q :=
  z_eqD (.lst h1 (dp_ints a)) (.lst h2 (dp_ints b)) (shp_ints a) (shp_ints b) (by rw [eqv_ints]; exact k)

abbrev N_law_point : List Str := ["_law_state", "_law_size", "_law_spread", "_law_k"]
-- _law_point(_law_state, _law_size, _law_spread): slots 0:_law_state 1:_law_size 2:_law_spread 3:_law_k
def T_law_point (K : PySem.W.Frag) : TS :=
    (tRet (tLc (iRng1 (tCons (tVar 1) tNil)) (gName 3) tYes (tOp uSub (tCal (sp_law_next K) (tCons (tVar 0) (tCons (tOp (uAdd K) (tOp uMul (tC (.int 2)) (tVar 2)) (tC (.int 1))) tNil))) (tVar 2)) [3]))

def sp_law_point (K : PySem.W.Frag) : Sp := fun vs H Q _ => ∃ (st L : Addr) (sz s : Int), vs = [.ref st, .int sz, .int s] ∧ Draw H st L ∧ 0 ≤ sz ∧ sz ≤ 1000 ∧ 0 ≤ s ∧ s ≤ 1000000000 ∧
  ∀ (p : Addr) (ns : List Int) (H' : Hp), H p = none → H' p = some (.lst (ns.map V.int)) → (ns.length : Int) = sz → Bd s ns → Draw H' st L → ExD H H' → Q (.ref p) H'
theorem law_point_c {K : PySem.W.Frag} {st L : Addr} {sz s : Int} {H : Hp} {Q : VK} {E : XK} (d : Draw H st L) (h : 0 ≤ sz ∧ sz ≤ 1000) (h2 : 0 ≤ s ∧ s ≤ 1000000000)
    (q : ∀ (p : Addr) (ns : List Int) (H' : Hp), H p = none → H' p = some (.lst (ns.map V.int)) → (ns.length : Int) = sz → Bd s ns → Draw H' st L → ExD H H' → Q (.ref p) H') : sp_law_point K [.ref st, .int sz, .int s] H Q E :=
  ⟨st, L, sz, s, rfl, d, h.1, h.2, h2.1, h2.2, q⟩
theorem map_app {ns : List Int} {x : Int} : ns.map V.int ++ [V.int x] = (ns ++ [x]).map V.int := by simp
theorem r_law_point {K : PySem.W.Frag} {st L : Addr} {sz s : Int} {H : Hp} {D : Ends} (d : Draw H st L) (h1 : 0 ≤ sz) (h2 : sz ≤ 1000) (h3 : 0 ≤ s) (h4 : s ≤ 1000000000)
    (q : ∀ (p : Addr) (ns : List Int) (H' : Hp), H p = none → H' p = some (.lst (ns.map V.int)) → (ns.length : Int) = sz → Bd s ns → Draw H' st L → ExD H H' → D.rt (.ref p) H') : T_law_point K D [some (.ref st), some (.int sz), some (.int s), none] H := by
  unfold T_law_point
  walk_at "zz"
  refine z_lcr1 (by omega) ?_
  refine z_lcr (fun p i H' => ∃ ns : List Int, H' p = some (.lst (ns.map V.int)) ∧ ns.length = i ∧ Bd s ns ∧ Draw H' st L ∧ ExD H H') (fun p hp => ⟨[], upd_same, rfl, (fun _ h => nomatch h), Draw.new hp d, ExD.new hp (ExD.refl H)⟩) ?_ ?_
  · rintro p i H' hp hi ⟨ns, e, hl, hb, d1, x1⟩
    have np := Draw.ne hp d
    have nL := Draw.neL hp d
    walk_at "zz"
    refine ⟨rfl, ?_⟩
    walk_at "zz"
    walk_at "nx"
    intro r H2 a2 b2 d2 x2
    walk_at "zz"
    have e2 := x2.lk e NotSt.ints
    refine z_accum e2 (by simp; omega) ?_
    rw [map_app]
    exact ⟨ns ++ [r - s], upd_same, by simp [hl], hb.app (by omega) (by omega), Draw.put np nL d2, ExD.new hp (x1.trans x2)⟩
  · rintro p H' hp ⟨ns, e, hl, hb, d1, x1⟩
    exact q p ns H' hp e (by omega) hb d1 x1
theorem w_law_point {K : PySem.W.Frag} : Wd (T_law_point K) N_law_point 3 (sp_law_point K) := fun vs H Q E h => by
  obtain ⟨st, L, sz, s, rfl, d, h1, h2, h3, h4, q⟩ := h
  exact ⟨rfl, r_law_point d h1 h2 h3 h4 q⟩
abbrev N_law_distance : List Str := ["_law_a", "_law_b", "_law_total", "_law_k"]
-- _law_distance(_law_a, _law_b): slots 0:_law_a 1:_law_b 2:_law_total 3:_law_k
def T_law_distance_b1 (K : PySem.W.Frag) : TS :=
    (tAsg (tOp (uAdd K) (tVar 2) (tOp uMul (tOp uSub (tOp (uIx K) (tVar 0) (tVar 3)) (tOp (uIx K) (tVar 1) (tVar 3))) (tOp uSub (tOp (uIx K) (tVar 0) (tVar 3)) (tOp (uIx K) (tVar 1) (tVar 3))))) (gName 2))
def T_law_distance (K : PySem.W.Frag) : TS :=
    (tSeq (tAsg (tC (.int 0)) (gName 2))
    (tSeq (tFor (iRng1 (tCons (tCB (uLen K) (tCons (tVar 0) tNil)) tNil)) (gName 3) (T_law_distance_b1 K))
    (tRet (tVar 2))))

def sp_law_distance (K : PySem.W.Frag) : Sp := fun vs H Q _ => ∃ (p r : Addr) (a b : List Int), vs = [.ref p, .ref r] ∧ (SqL K H p (a.map V.int) ∨ SqT K H p (a.map V.int)) ∧ (SqL K H r (b.map V.int) ∨ SqT K H r (b.map V.int)) ∧ a.length = b.length ∧ a.length ≤ 100000 ∧ Bd 100000000000000000 a ∧ Bd 100000000000000000 b ∧ Q (.int (distZ a b)) H
theorem law_distance_c {K : PySem.W.Frag} {p r : Addr} {a b : List Int} {H : Hp} {Q : VK} {E : XK} (h1 : SqL K H p (a.map V.int)) (h2 : SqL K H r (b.map V.int)) (h3 : a.length = b.length) (h4 : a.length ≤ 100000) (h5 : Bd 100000000000000000 a) (h6 : Bd 100000000000000000 b) (q : Q (.int (distZ a b)) H) :
    sp_law_distance K [.ref p, .ref r] H Q E := ⟨p, r, a, b, rfl, .inl h1, .inl h2, h3, h4, h5, h6, q⟩
theorem law_distance_cA {K : PySem.W.Frag} {p r : Addr} {a b : List Int} {H : Hp} {Q : VK} {E : XK} (h1 : SqL K H p (a.map V.int) ∨ SqT K H p (a.map V.int)) (h2 : SqL K H r (b.map V.int) ∨ SqT K H r (b.map V.int)) (h3 : a.length = b.length) (h4 : a.length ≤ 100000) (h5 : Bd 100000000000000000 a) (h6 : Bd 100000000000000000 b) (q : Q (.int (distZ a b)) H) :
    sp_law_distance K [.ref p, .ref r] H Q E := ⟨p, r, a, b, rfl, h1, h2, h3, h4, h5, h6, q⟩
theorem r_law_distance {K : PySem.W.Frag} {p r : Addr} {a b : List Int} {H : Hp} {D : Ends} (h1 : SqL K H p (a.map V.int) ∨ SqT K H p (a.map V.int)) (h2 : SqL K H r (b.map V.int) ∨ SqT K H r (b.map V.int)) (h3 : a.length = b.length) (h4 : a.length ≤ 100000) (h5 : Bd 100000000000000000 a) (h6 : Bd 100000000000000000 b) (q : D.rt (.int (distZ a b)) H) :
    T_law_distance K D [some (.ref p), some (.ref r), none, none] H := by
  unfold T_law_distance
  walk_at "zz"
  try refine z_len h1 ?_
  walk_at "zz"
  refine z_rng1 (by simp; omega) ?_ (by omega)
  refine z_rng (fun i σ H' => H = H' ∧ ∃ v, σ = [some (.ref p), some (.ref r), some (.int (distZ (a.take i) (b.take i))), v]) ⟨rfl, none, by simp [distZ]⟩ ?_ ?_
  · rintro i σ H' hi ⟨rfl, v, rfl⟩
    have hi : i < a.length := by simpa using hi
    unfold T_law_distance_b1
    walk_at "zz"
    try refine z_ix h1 (at_int (by omega) (by omega)) ?_
    walk_at "zz"
    try refine z_ix h2 (at_int (by omega) (by omega)) ?_
    walk_at "zz"
    try refine z_ix h1 (at_int (by omega) (by omega)) ?_
    walk_at "zz"
    try refine z_ix h2 (at_int (by omega) (by omega)) ?_
    have ei : (0 + (i : Int)).toNat = i := by omega
    rw [ei]
    have u1 := h5.at hi
    have u2 := h6.at (h3 ▸ hi)
    walk_at "zz"
    rw [distZ_take h3 hi]
    exact ⟨rfl, _, rfl⟩
  · rintro σ H' ⟨rfl, v, rfl⟩
    walk_at "zz"
    have e : (Int.toNat (↑(List.map V.int a).length)) = a.length := by simp
    rw [e, List.take_length, h3, List.take_length]
    exact q
theorem w_law_distance {K : PySem.W.Frag} : Wd (T_law_distance K) N_law_distance 2 (sp_law_distance K) := fun vs H Q E h => by
  obtain ⟨p, r, a, b, rfl, h1, h2, h3, h4, h5, h6, q⟩ := h
  exact ⟨rfl, r_law_distance h1 h2 h3 h4 h5 h6 q⟩


/-! ### the products and distances of the program -/
/-- two lists, or two tuples, of ints -/
def Two (K : PySem.W.Frag) (H : Hp) (p r : Addr) (a b : List Int) : Prop := (SqL K H p (a.map V.int) ∧ SqL K H r (b.map V.int)) ∨ (SqT K H p (a.map V.int) ∧ SqT K H r (b.map V.int))

abbrev N_inner : List Str := ["a", "b", "total", "x", "y"]
-- inner(a, b): slots 0:a 1:b 2:total 3:x 4:y
def T_inner_b1 (K : PySem.W.Frag) : TS :=
    (tAsg (tOp (uAdd K) (tVar 2) (tOp uMul (tVar 3) (tVar 4))) (gName 2))
def T_inner (K : PySem.W.Frag) : TS :=
    (tSeq (tAsg (tC (.int 0)) (gName 2))
    (tSeq (tFor (RZ.iZipA K (tCons (tVar 0) (tCons (tVar 1) tNil))) (gTup K 2 (gCons (gName 3) (gCons (gName 4) gNil))) (T_inner_b1 K))
    (tRet (tVar 2))))


def sp_inner (K : PySem.W.Frag) : Sp := fun vs H Q _ => ∃ (p r : Addr) (a b : List Int), vs = [.ref p, .ref r] ∧ Two K H p r a b ∧ a.length = b.length ∧ Bd 100000000000000000 a ∧ Bd 100000000000000000 b ∧ ∀ H', Same H H' → Q (.int (innerZ a b)) H'
theorem inner_c {K : PySem.W.Frag} {p r : Addr} {a b : List Int} {H : Hp} {Q : VK} {E : XK} (h : Two K H p r a b) (h3 : a.length = b.length) (h5 : Bd 100000000000000000 a) (h6 : Bd 100000000000000000 b) (q : ∀ H', Same H H' → Q (.int (innerZ a b)) H') : sp_inner K [.ref p, .ref r] H Q E := ⟨p, r, a, b, rfl, h, h3, h5, h6, q⟩
theorem r_inner {K : PySem.W.Frag} {p r : Addr} {a b : List Int} {H : Hp} {D : Ends} (h : Two K H p r a b) (h3 : a.length = b.length) (h5 : Bd 100000000000000000 a) (h6 : Bd 100000000000000000 b) (q : ∀ H', Same H H' → D.rt (.int (innerZ a b)) H') : T_inner K D [some (.ref p), some (.ref r), none, none, none] H := by
  unfold T_inner
  walk_at "zz"
  refine z_zip h (fun i σ H' => Same H H' ∧ ∃ v w, σ = [some (.ref p), some (.ref r), some (.int (innerZ (a.take i) (b.take i))), v, w]) ⟨Same.refl H, none, none, by simp [innerZ]⟩ (fun i σ H' h => h.1) ?_ ?_
  · rintro i x y t σ H' hx hy ⟨s, v, w, rfl⟩ ht
    obtain ⟨l1, rfl⟩ := map_int hx
    obtain ⟨l2, rfl⟩ := map_int hy
    have u1 := h5.at l1
    have u2 := h6.at l2
    unfold T_inner_b1
    walk_at "zz"
    rw [← innerZ_take h3 l1]
    exact ⟨Same.new ht s, _, _, rfl⟩
  · rintro σ H' ⟨s, v, w, rfl⟩
    walk_at "zz"
    have e : min (a.map V.int).length (b.map V.int).length = a.length := by simp [h3]
    rw [e, List.take_length, h3, List.take_length]
    exact q H' s
theorem w_inner {K : PySem.W.Frag} : Wd (T_inner K) N_inner 2 (sp_inner K) := fun vs H Q E h => by
  obtain ⟨p, r, a, b, rfl, h1, h3, h5, h6, q⟩ := h
  exact ⟨rfl, r_inner h1 h3 h5 h6 q⟩

abbrev N_distance : List Str := ["a", "b", "total", "x", "y"]
-- distance(a, b): slots 0:a 1:b 2:total 3:x 4:y
def T_distance_b1 (K : PySem.W.Frag) : TS :=
    (tAsg (tOp (uAdd K) (tVar 2) (tOp uMul (tOp uSub (tVar 3) (tVar 4)) (tOp uSub (tVar 3) (tVar 4)))) (gName 2))
def T_distance (K : PySem.W.Frag) : TS :=
    (tSeq (tAsg (tC (.int 0)) (gName 2))
    (tSeq (tFor (RZ.iZipA K (tCons (tVar 0) (tCons (tVar 1) tNil))) (gTup K 2 (gCons (gName 3) (gCons (gName 4) gNil))) (T_distance_b1 K))
    (tRet (tVar 2))))


def sp_distance (K : PySem.W.Frag) : Sp := fun vs H Q _ => ∃ (p r : Addr) (a b : List Int), vs = [.ref p, .ref r] ∧ Two K H p r a b ∧ a.length = b.length ∧ Bd 100000000000000000 a ∧ Bd 100000000000000000 b ∧ ∀ H', Same H H' → Q (.int (distZ a b)) H'
theorem distance_c {K : PySem.W.Frag} {p r : Addr} {a b : List Int} {H : Hp} {Q : VK} {E : XK} (h : Two K H p r a b) (h3 : a.length = b.length) (h5 : Bd 100000000000000000 a) (h6 : Bd 100000000000000000 b) (q : ∀ H', Same H H' → Q (.int (distZ a b)) H') : sp_distance K [.ref p, .ref r] H Q E := ⟨p, r, a, b, rfl, h, h3, h5, h6, q⟩
theorem r_distance {K : PySem.W.Frag} {p r : Addr} {a b : List Int} {H : Hp} {D : Ends} (h : Two K H p r a b) (h3 : a.length = b.length) (h5 : Bd 100000000000000000 a) (h6 : Bd 100000000000000000 b) (q : ∀ H', Same H H' → D.rt (.int (distZ a b)) H') : T_distance K D [some (.ref p), some (.ref r), none, none, none] H := by
  unfold T_distance
  walk_at "zz"
  refine z_zip h (fun i σ H' => Same H H' ∧ ∃ v w, σ = [some (.ref p), some (.ref r), some (.int (distZ (a.take i) (b.take i))), v, w]) ⟨Same.refl H, none, none, by simp [distZ]⟩ (fun i σ H' h => h.1) ?_ ?_
  · rintro i x y t σ H' hx hy ⟨s, v, w, rfl⟩ ht
    obtain ⟨l1, rfl⟩ := map_int hx
    obtain ⟨l2, rfl⟩ := map_int hy
    have u1 := h5.at l1
    have u2 := h6.at l2
    unfold T_distance_b1
    walk_at "zz"
    rw [← distZ_take h3 l1]
    exact ⟨Same.new ht s, _, _, rfl⟩
  · rintro σ H' ⟨s, v, w, rfl⟩
    walk_at "zz"
    have e : min (a.map V.int).length (b.map V.int).length = a.length := by simp [h3]
    rw [e, List.take_length, h3, List.take_length]
    exact q H' s
theorem w_distance {K : PySem.W.Frag} : Wd (T_distance K) N_distance 2 (sp_distance K) := fun vs H Q E h => by
  obtain ⟨p, r, a, b, rfl, h1, h3, h5, h6, q⟩ := h
  exact ⟨rfl, r_distance h1 h3 h5 h6 q⟩

abbrev N_differing : List Str := ["a", "b", "total", "x", "y"]
-- differing(a, b): slots 0:a 1:b 2:total 3:x 4:y
def T_differing_b1 (K : PySem.W.Frag) : TS :=
    (tIfS (tTest (tOp (uNe K) (tVar 3) (tVar 4))) (tAsg (tOp (uAdd K) (tVar 2) (tC (.int 1))) (gName 2)) tNext)
def T_differing (K : PySem.W.Frag) : TS :=
    (tSeq (tAsg (tC (.int 0)) (gName 2))
    (tSeq (tFor (RZ.iZipA K (tCons (tVar 0) (tCons (tVar 1) tNil))) (gTup K 2 (gCons (gName 3) (gCons (gName 4) gNil))) (T_differing_b1 K))
    (tRet (tVar 2))))


def sp_differing (K : PySem.W.Frag) : Sp := fun vs H Q _ => ∃ (p r : Addr) (a b : List Int), vs = [.ref p, .ref r] ∧ Two K H p r a b ∧ a.length = b.length ∧ Bd 100000000000000000 a ∧ Bd 100000000000000000 b ∧ ∀ H', Same H H' → Q (.int (diffZ a b)) H'
theorem differing_c {K : PySem.W.Frag} {p r : Addr} {a b : List Int} {H : Hp} {Q : VK} {E : XK} (h : Two K H p r a b) (h3 : a.length = b.length) (h5 : Bd 100000000000000000 a) (h6 : Bd 100000000000000000 b) (q : ∀ H', Same H H' → Q (.int (diffZ a b)) H') : sp_differing K [.ref p, .ref r] H Q E := ⟨p, r, a, b, rfl, h, h3, h5, h6, q⟩
theorem r_differing {K : PySem.W.Frag} {p r : Addr} {a b : List Int} {H : Hp} {D : Ends} (h : Two K H p r a b) (h3 : a.length = b.length) (h5 : Bd 100000000000000000 a) (h6 : Bd 100000000000000000 b) (q : ∀ H', Same H H' → D.rt (.int (diffZ a b)) H') : T_differing K D [some (.ref p), some (.ref r), none, none, none] H := by
  unfold T_differing
  walk_at "zz"
  refine z_zip h (fun i σ H' => Same H H' ∧ ∃ v w, σ = [some (.ref p), some (.ref r), some (.int (diffZ (a.take i) (b.take i))), v, w]) ⟨Same.refl H, none, none, by simp [diffZ]⟩ (fun i σ H' h => h.1) ?_ ?_
  · rintro i x y t σ H' hx hy ⟨s, v, w, rfl⟩ ht
    obtain ⟨l1, rfl⟩ := map_int hx
    obtain ⟨l2, rfl⟩ := map_int hy
    have u1 := h5.at l1
    have u2 := h6.at l2
    unfold T_differing_b1
    walk_at "zz"
    refine z_itN (fun c => ?_) (fun c => ?_)
    · walk_at "zz"
      have e := diffZ_take h3 l1
      rw [if_neg c] at e
      rw [← e]
      exact ⟨Same.new ht s, _, _, rfl⟩
    · walk_at "zz"
      have e := diffZ_take h3 l1
      rw [if_pos c, Int.add_zero] at e
      rw [← e]
      exact ⟨Same.new ht s, _, _, rfl⟩
  · rintro σ H' ⟨s, v, w, rfl⟩
    walk_at "zz"
    have e : min (a.map V.int).length (b.map V.int).length = a.length := by simp [h3]
    rw [e, List.take_length, h3, List.take_length]
    exact q H' s
theorem w_differing {K : PySem.W.Frag} : Wd (T_differing K) N_differing 2 (sp_differing K) := fun vs H Q E h => by
  obtain ⟨p, r, a, b, rfl, h1, h3, h5, h6, q⟩ := h
  exact ⟨rfl, r_differing h1 h3 h5 h6 q⟩

abbrev N_norm : List Str := ["a"]
-- norm(a): slots 0:a
def T_norm (K : PySem.W.Frag) : TS :=
    (tRet (tCal (sp_inner K) (tCons (tVar 0) (tCons (tVar 0) tNil))))


def sp_norm (K : PySem.W.Frag) : Sp := fun vs H Q _ => ∃ (p : Addr) (a : List Int), vs = [.ref p] ∧ (SqL K H p (a.map V.int) ∨ SqT K H p (a.map V.int)) ∧ Bd 100000000000000000 a ∧ ∀ H', Same H H' → Q (.int (innerZ a a)) H'
theorem norm_c {K : PySem.W.Frag} {p : Addr} {a : List Int} {H : Hp} {Q : VK} {E : XK} (h : SqL K H p (a.map V.int) ∨ SqT K H p (a.map V.int)) (h5 : Bd 100000000000000000 a) (q : ∀ H', Same H H' → Q (.int (innerZ a a)) H') : sp_norm K [.ref p] H Q E := ⟨p, a, rfl, h, h5, q⟩
theorem r_norm {K : PySem.W.Frag} {p : Addr} {a : List Int} {H : Hp} {D : Ends} (h : SqL K H p (a.map V.int) ∨ SqT K H p (a.map V.int)) (h5 : Bd 100000000000000000 a) (q : ∀ H', Same H H' → D.rt (.int (innerZ a a)) H') : T_norm K D [some (.ref p)] H := by
  unfold T_norm
  walk_at "zz"
  exact inner_c (h.elim (fun z => .inl ⟨z, z⟩) fun z => .inr ⟨z, z⟩) rfl h5 h5 q
theorem w_norm {K : PySem.W.Frag} : Wd (T_norm K) N_norm 1 (sp_norm K) := fun vs H Q E h => by
  obtain ⟨p, a, rfl, h1, h5, q⟩ := h
  exact ⟨rfl, r_norm h1 h5 q⟩

/-! ### objects while they are made -/
/-- all but p stays -/
def SameB (p : Addr) (H H' : Hp) : Prop := ∀ a o, a ≠ p → H a = some o → H' a = some o
theorem SameB.refl (p : Addr) (H : Hp) : SameB p H H := fun _ _ _ e => e
theorem SameB.same {p : Addr} {H H1 H2 : Hp} (s : SameB p H H1) (t : Same H1 H2) : SameB p H H2 := fun a o n e => t _ _ (s a o n e)
theorem SameB.put {p : Addr} {H H1 : Hp} {o : HO} (s : SameB p H H1) : SameB p H (upd H1 p o) := fun a u n e => lk_ne n (s a u n e)
theorem SameB.new {p q : Addr} {H H1 : Hp} {o : HO} (h : H1 q = none) (s : SameB p H H1) : SameB p H (upd H1 q o) := fun a u n e => lk_new h (s a u n e)
theorem SameB.putN {p q : Addr} {H H1 : Hp} {o : HO} (h : H q = none) (s : SameB p H H1) : SameB p H (upd H1 q o) := fun a u n e => lk_ne (ne_of_none e h) (s a u n e)
theorem SameB.out {p dx : Addr} {H H' : Hp} {o1 o2 : HO} (h1 : H p = none) (h2 : H dx = none) (s : SameB p (upd (upd H dx o1) p o2) H') : Same H H' := fun a o e => s a o (ne_of_none e h1) (lk_ne (ne_of_none e h1) (lk_ne (ne_of_none e h2) e))
theorem SqL.putI {K : PySem.W.Frag} {H : Hp} {p a C dx : Addr} {fs : List (Str × V)} {xs : List V} {o : HO} (hp : H p = some (.ins C dx fs)) (h : SqL K H a xs) : SqL K (upd H p o) a xs := by
  rcases h with (e | ⟨u, e⟩) | e
  · exact .inl (.inl (lk_df e hp (fun z => by cases z)))
  · exact .inl (.inr ⟨u, lk_df e hp (fun z => by cases z)⟩)
  · exact .inr e
theorem SqT.putI {K : PySem.W.Frag} {H : Hp} {p a C dx : Addr} {fs : List (Str × V)} {xs : List V} {o : HO} (hp : H p = some (.ins C dx fs)) (h : SqT K H a xs) : SqT K (upd H p o) a xs := by
  rcases h with (e | ⟨u, e⟩) | e
  · exact .inl (.inl (lk_df e hp (fun z => by cases z)))
  · exact .inl (.inr ⟨u, lk_df e hp (fun z => by cases z)⟩)
  · exact .inr e
/-- a list or a tuple -/
def SqA (K : PySem.W.Frag) (H : Hp) (a : Addr) (xs : List V) : Prop := SqL K H a xs ∨ SqT K H a xs
theorem SqA.same {K : PySem.W.Frag} {H H' : Hp} {a : Addr} {xs : List V} (s : Same H H') (h : SqA K H a xs) : SqA K H' a xs := h.imp (Same.seq s) (Same.sqT s)
theorem SqA.putI {K : PySem.W.Frag} {H : Hp} {p a C dx : Addr} {fs : List (Str × V)} {xs : List V} {o : HO} (hp : H p = some (.ins C dx fs)) (h : SqA K H a xs) : SqA K (upd H p o) a xs := h.imp (SqL.putI hp) (SqT.putI hp)
theorem z_tupleA {K : PySem.W.Frag} {H : Hp} {Q : VK} {a : Addr} {xs : List V} (h : SqA K H a xs) (k : ∀ t H', Same H H' → SqT K H' t xs → Q (.ref t) H') : uTuple K [.ref a] H Q := by
  rcases h with h | h
  · exact z_tupleL h fun t ht => k t _ (Same.new ht (Same.refl H)) (SqT.of upd_same)
  · exact z_tupleT h (k a H (Same.refl H) h)
/-! ### pairs, given and kept -/
abbrev PairAt (K : PySem.W.Frag) (H : Hp) (q : Addr) (x : V × V) : Prop := SqT K H q [x.1, x.2]
def PairsA (K : PySem.W.Frag) (H : Hp) (a : Addr) (l : List (V × V)) : Prop := ∃ ps : List Addr, SqA K H a (ps.map V.ref) ∧ All2 (PairAt K H) ps l
def PairsT (K : PySem.W.Frag) (H : Hp) (a : Addr) (l : List (V × V)) : Prop := ∃ ps : List Addr, SqT K H a (ps.map V.ref) ∧ All2 (PairAt K H) ps l
theorem PairsA.same {K : PySem.W.Frag} {H H' : Hp} {a : Addr} {l : List (V × V)} (s : Same H H') (h : PairsA K H a l) : PairsA K H' a l := ⟨h.choose, h.choose_spec.1.same s, All2.imp (fun _ _ e => Same.sqT s e) h.choose_spec.2⟩
theorem PairsT.same {K : PySem.W.Frag} {H H' : Hp} {a : Addr} {l : List (V × V)} (s : Same H H') (h : PairsT K H a l) : PairsT K H' a l := ⟨h.choose, Same.sqT s h.choose_spec.1, All2.imp (fun _ _ e => Same.sqT s e) h.choose_spec.2⟩
theorem PairsA.putI {K : PySem.W.Frag} {H : Hp} {p a C dx : Addr} {fs : List (Str × V)} {l : List (V × V)} {o : HO} (hp : H p = some (.ins C dx fs)) (h : PairsA K H a l) : PairsA K (upd H p o) a l := ⟨h.choose, h.choose_spec.1.putI hp, All2.imp (fun _ _ e => SqT.putI hp e) h.choose_spec.2⟩
theorem PairsT.putI {K : PySem.W.Frag} {H : Hp} {p a C dx : Addr} {fs : List (Str × V)} {l : List (V × V)} {o : HO} (hp : H p = some (.ins C dx fs)) (h : PairsT K H a l) : PairsT K (upd H p o) a l := ⟨h.choose, SqT.putI hp h.choose_spec.1, All2.imp (fun _ _ e => SqT.putI hp e) h.choose_spec.2⟩
theorem PairsA.e {K : PySem.W.Frag} {H : Hp} {a : Addr} (h : SqT K H a []) : PairsA K H a [] := ⟨[], .inr h, .nil⟩
/-- [(x, y) for x, y in pairs] -/
theorem z_lcPairs {K : PySem.W.Frag} {a : Addr} {l : List (V × V)} {σ : L2.St} {u v : Nat} {H : Hp} {Q : VK} (e : PairsA K H a l) (hn : l.length ≤ 1000) (hu : u < σ.length) (hv : v < σ.length) (huv : u ≠ v)
    (q : ∀ (r : Addr) H', H r = none → Same H H' → (∃ ps : List Addr, H' r = some (.lst (ps.map V.ref)) ∧ All2 (PairAt K H') ps l) → Q (.ref r) H') :
    zLcS K (gTup K 2 (gCons (gName u) (gCons (gName v) gNil))) tYes (tTup (tCons (tVar u) (tCons (tVar v) tNil))) [u, v] σ (.ref a) H Q := by
  obtain ⟨ps, e, r⟩ := e
  have hl := All2.len r
  have wp : ∀ x y : Option V, wipe (((wipe σ [u, v]).set u x).set v y) [u, v] = wipe σ [u, v] := fun x y => by
    show ((((((σ.set v none).set u none).set u x).set v y).set v none).set u none) = (σ.set v none).set u none
    rw [List.set_set, List.set_set, List.set_comm _ _ huv, List.set_set, List.set_set]
  have vu : ∀ x y : V, (((wipe σ [u, v]).set u (some x)).set v (some y))[u]? = some (some x) := fun x y => by
    show ((((σ.set v none).set u none).set u (some x)).set v (some y))[u]? = _
    rw [List.getElem?_set_ne huv.symm, List.getElem?_set_self (by simpa using hu)]
  have vv : ∀ x y : V, (((wipe σ [u, v]).set u (some x)).set v (some y))[v]? = some (some y) := fun x y => by
    show ((((σ.set v none).set u none).set u (some x)).set v (some y))[v]? = _
    rw [List.getElem?_set_self (by simpa using hv)]
  have turn : ∀ (C : Addr) (i : Nat) (x : V) (H' : Hp), H C = none → (ps.map V.ref)[i]? = some x → (Same H H' ∧ ∃ ms : List Addr, H' C = some (.lst (ms.map V.ref)) ∧ All2 (PairAt K H') ms (l.take i)) →
      gTup K 2 (gCons (gName u) (gCons (gName v) gNil)) x (wipe σ [u, v]) H' fun σ2 H2 => wipe σ2 [u, v] = wipe σ [u, v] ∧ tYes σ2 H2 fun b H3 =>
        if b = true then tTup (tCons (tVar u) (tCons (tVar v) tNil)) σ2 H3 fun y H4 => ∃ acc, H4 C = some (.lst acc) ∧ acc.length < sizeLine ∧ (Same H (upd H4 C (.lst (acc ++ [y]))) ∧ ∃ ms : List Addr, upd H4 C (.lst (acc ++ [y])) C = some (.lst (ms.map V.ref)) ∧ All2 (PairAt K (upd H4 C (.lst (acc ++ [y])))) ms (l.take (i + 1))) else (Same H H3 ∧ ∃ ms : List Addr, H3 C = some (.lst (ms.map V.ref)) ∧ All2 (PairAt K H3) ms (l.take (i + 1))) := by
    rintro C i x H' hC hx ⟨s, ms, eC, rm⟩
    obtain ⟨hi, rfl⟩ := map_ref hx
    have hi2 : i < l.length := by omega
    have lm := All2.len rm
    refine z_gTup2 (Same.sqT s (All2.atD r 0 (V.non, V.non) hi2)) ?_
    refine ⟨wp _ _, ?_⟩
    refine z_yes ?_
    rw [if_pos rfl]
    refine z_tup (z_cons (z_var (vu _ _) (z_cons (z_var (vv _ _) (z_nil ?_)))))
    refine z_newT (by simp) fun t ht => ?_
    refine z_accum (lk_new ht eC) (by rw [List.length_map, lm, List.length_take]; omega) ?_
    refine ⟨Same.put hC (Same.new ht s), ms ++ [t], by rw [upd_same, ref_app], ?_⟩
    rw [take_dS (V.non, V.non) hi2]
    have eC2 := lk_new (o := .tup [(l.getD i (V.non, V.non)).1, (l.getD i (V.non, V.non)).2]) ht eC
    have put : ∀ {q : Addr} {xs : List V}, SqT K (upd H' t (.tup [(l.getD i (V.non, V.non)).1, (l.getD i (V.non, V.non)).2])) q xs → SqT K (upd (upd H' t (.tup [(l.getD i (V.non, V.non)).1, (l.getD i (V.non, V.non)).2])) C (.lst (ms.map V.ref ++ [.ref t]))) q xs := fun {q xs} h => by
      rcases h with (h | ⟨o, h⟩) | h
      · exact .inl (.inl (lk_df h eC2 (fun z => by cases z)))
      · exact .inl (.inr ⟨o, lk_df h eC2 (fun z => by cases z)⟩)
      · exact .inr h
    exact (All2.imp (fun _ _ h => put (sqT_new ht h)) rm).app (put (SqT.of upd_same))
  have fin : ∀ (C : Addr) (H' : Hp), H C = none → (Same H H' ∧ ∃ ms : List Addr, H' C = some (.lst (ms.map V.ref)) ∧ All2 (PairAt K H') ms (l.take (ps.map V.ref).length)) → Q (.ref C) H' := by
    rintro C H' hC ⟨s, ms, eC, rm⟩
    rw [List.length_map, hl, List.take_length] at rm
    exact q C H' hC s ⟨ms, eC, rm⟩
  have st : ∀ C, H C = none → (Same H (upd H C (.lst [])) ∧ ∃ ms : List Addr, upd H C (.lst []) C = some (.lst (ms.map V.ref)) ∧ All2 (PairAt K (upd H C (.lst []))) ms (l.take 0)) := fun C hC => ⟨Same.new hC (Same.refl H), [], upd_same, .nil⟩
  rcases e with e | e
  · exact z_lcl e (fun C i H' => Same H H' ∧ ∃ ms : List Addr, H' C = some (.lst (ms.map V.ref)) ∧ All2 (PairAt K H') ms (l.take i)) st (fun C i H' _ _ z => Same.seq z.1 e) turn fin
  · exact z_lct e (fun C i H' => Same H H' ∧ ∃ ms : List Addr, H' C = some (.lst (ms.map V.ref)) ∧ All2 (PairAt K H') ms (l.take i)) st (fun C i H' _ _ z => Same.sqT z.1 e) turn fin
/-! ### records -/
abbrev recF (n : Str) (tv tf tw : Addr) : List (Str × V) := [("name", .str n), ("vector", .ref tv), ("fields", .ref tf), ("words", .ref tw)]
abbrev REC : List Str := ["name", "vector", "fields", "words"]
def RecAt (K : PySem.W.Frag) (c : CEnv) (H : Hp) (p : Addr) (n : Str) (xs : List Int) (fl ws : List (V × V)) : Prop := ∃ tv tf tw, InsAt K c H p "Record" (recF n tv tf tw) ∧ SqT K H tv (xs.map V.int) ∧ PairsT K H tf fl ∧ PairsT K H tw ws
theorem RecAt.same {K : PySem.W.Frag} {c : CEnv} {H H' : Hp} {p : Addr} {n : Str} {xs : List Int} {fl ws : List (V × V)} (s : Same H H') (h : RecAt K c H p n xs fl ws) : RecAt K c H' p n xs fl ws := by
  obtain ⟨tv, tf, tw, a, b, d, e⟩ := h
  exact ⟨tv, tf, tw, a.same s, Same.sqT s b, d.same s, e.same s⟩
abbrev N_Record_init : List Str := ["self", "name", "vector", "fields", "words", "field", "worth", "word", "count"]
-- Record.__init__(self, name, vector, fields, words): slots 0:self 1:name 2:vector 3:fields 4:words 5:field 6:worth 7:word 8:count
def T_Record_init (K : PySem.W.Frag) : TS :=
    (tSeq (sFld K (tVar 0) (tVar 1) "name")
    (tSeq (sFld K (tVar 0) (tCB (uTuple K) (tCons (tVar 2) tNil)) "vector")
    (tSeq (sFld K (tVar 0) (tCB (uTuple K) (tCons (tLc (iSq K (tVar 3)) (gTup K 2 (gCons (gName 5) (gCons (gName 6) gNil))) tYes (tTup (tCons (tVar 5) (tCons (tVar 6) tNil))) [5, 6]) tNil)) "fields")
    (sFld K (tVar 0) (tCB (uTuple K) (tCons (tLc (iSq K (tVar 4)) (gTup K 2 (gCons (gName 7) (gCons (gName 8) gNil))) tYes (tTup (tCons (tVar 7) (tCons (tVar 8) tNil))) [7, 8]) tNil)) "words"))))

def sp_Record_init (K : PySem.W.Frag) (c : CEnv) : Sp := fun vs H Q _ => ∃ (p dx v f w : Addr) (n : Str) (xs : List Int) (fl ws : List (V × V)), vs = [.ref p, .str n, .ref v, .ref f, .ref w] ∧ ClsOk K c "Record" ["name", "vector", "fields", "words"] ∧ H p = some (.ins (c.cls "Record") dx []) ∧ SqA K H v (xs.map V.int) ∧ PairsA K H f fl ∧ PairsA K H w ws ∧ fl.length ≤ 1000 ∧ ws.length ≤ 1000 ∧
  ∀ H', SameB p H H' → RecAt K c H' p n xs fl ws → Q .non H'
theorem Record_init_c {K : PySem.W.Frag} {c : CEnv} {p dx v f w : Addr} {n : Str} {xs : List Int} {fl ws : List (V × V)} {H : Hp} {Q : VK} {E : XK} (ok : ClsOk K c "Record" ["name", "vector", "fields", "words"]) (hp : H p = some (.ins (c.cls "Record") dx [])) (hv : SqA K H v (xs.map V.int)) (hf : PairsA K H f fl) (hw : PairsA K H w ws) (lf : fl.length ≤ 1000) (lw : ws.length ≤ 1000)
    (q : ∀ H', SameB p H H' → RecAt K c H' p n xs fl ws → Q .non H') : sp_Record_init K c [.ref p, .str n, .ref v, .ref f, .ref w] H Q E := ⟨p, dx, v, f, w, n, xs, fl, ws, rfl, ok, hp, hv, hf, hw, lf, lw, q⟩
theorem w_Record_init {K : PySem.W.Frag} {c : CEnv} : Wd (T_Record_init K) N_Record_init 5 (sp_Record_init K c) := fun vs H Q E h => by
  obtain ⟨p, dx, v, f, w, n, xs, fl, ws, rfl, ok, hp, hv, hf, hw, lf, lw, q⟩ := h
  refine ⟨rfl, ?_⟩
  show T_Record_init K _ [some (.ref p), some (.str n), some (.ref v), some (.ref f), some (.ref w), none, none, none, none] H
  unfold T_Record_init
  have s1 := (SameB.refl p H).put (o := .ins (c.cls "Record") dx [("name", .str n)])
  have hv1 := hv.putI (o := .ins (c.cls "Record") dx [("name", .str n)]) hp
  have hf1 := hf.putI (o := .ins (c.cls "Record") dx [("name", .str n)]) hp
  have hw1 := hw.putI (o := .ins (c.cls "Record") dx [("name", .str n)]) hp
  walk_at "zz"
  rw [show putF "name" (V.str n) ([] : List (Str × V)) = ([("name", .str n)] : List (Str × V)) from rfl]
  have e1 : upd H p (.ins (c.cls "Record") dx [("name", .str n)]) p = some (.ins (c.cls "Record") dx [("name", .str n)]) := upd_same
  generalize upd H p (.ins (c.cls "Record") dx [("name", .str n)]) = H1 at *
  refine z_tupleA hv1 fun t H2 s2 et => ?_
  have e2 := s2 _ _ e1
  have b2 := SameB.same s1 s2
  have hf2 := hf1.same s2
  have hw2 := hw1.same s2
  walk_at "zz"
  have b3 := b2.put (o := .ins (c.cls "Record") dx [("name", .str n), ("vector", .ref t)])
  have et3 := SqT.putI (o := .ins (c.cls "Record") dx [("name", .str n), ("vector", .ref t)]) e2 et
  have hf3 := hf2.putI (o := .ins (c.cls "Record") dx [("name", .str n), ("vector", .ref t)]) e2
  have hw3 := hw2.putI (o := .ins (c.cls "Record") dx [("name", .str n), ("vector", .ref t)]) e2
  rw [show putF "vector" (V.ref t) ([("name", .str n)] : List (Str × V)) = ([("name", .str n), ("vector", .ref t)] : List (Str × V)) from rfl]
  have e3 : upd H2 p (.ins (c.cls "Record") dx [("name", .str n), ("vector", .ref t)]) p = some (.ins (c.cls "Record") dx [("name", .str n), ("vector", .ref t)]) := upd_same
  generalize upd H2 p (.ins (c.cls "Record") dx [("name", .str n), ("vector", .ref t)]) = H3 at *
  refine z_lcPairs hf3 lf (by walk_at "few") (by walk_at "few") (by decide) fun r H4 nr s4 hr => ?_
  obtain ⟨ps, er, rp⟩ := hr
  refine z_nil ?_
  refine z_tupleL (SqL.of er) fun u hu => ?_
  have s5 := Same.new (o := .tup (ps.map V.ref)) hu s4
  have ru5 : PairsT K (upd H4 u (.tup (ps.map V.ref))) u fl := ⟨ps, SqT.of upd_same, All2.imp (fun _ _ h => sqT_new hu h) rp⟩
  have e5 := s5 _ _ e3
  have b5 := SameB.same b3 s5
  have et5 := Same.sqT s5 et3
  have hw5 := hw3.same s5
  generalize upd H4 u (.tup (ps.map V.ref)) = H5 at *
  walk_at "zz"
  have b6 := b5.put (o := .ins (c.cls "Record") dx [("name", .str n), ("vector", .ref t), ("fields", .ref u)])
  have et6 := SqT.putI (o := .ins (c.cls "Record") dx [("name", .str n), ("vector", .ref t), ("fields", .ref u)]) e5 et5
  have ru6 := ru5.putI (o := .ins (c.cls "Record") dx [("name", .str n), ("vector", .ref t), ("fields", .ref u)]) e5
  have hw6 := hw5.putI (o := .ins (c.cls "Record") dx [("name", .str n), ("vector", .ref t), ("fields", .ref u)]) e5
  rw [show putF "fields" (V.ref u) ([("name", .str n), ("vector", .ref t)] : List (Str × V)) = ([("name", .str n), ("vector", .ref t), ("fields", .ref u)] : List (Str × V)) from rfl]
  have e6 : upd H5 p (.ins (c.cls "Record") dx [("name", .str n), ("vector", .ref t), ("fields", .ref u)]) p = some (.ins (c.cls "Record") dx [("name", .str n), ("vector", .ref t), ("fields", .ref u)]) := upd_same
  generalize upd H5 p (.ins (c.cls "Record") dx [("name", .str n), ("vector", .ref t), ("fields", .ref u)]) = H6 at *
  refine z_lcPairs hw6 lw (by walk_at "few") (by walk_at "few") (by decide) fun r2 H7 nr2 s7 hr2 => ?_
  obtain ⟨qs, er2, rq⟩ := hr2
  refine z_nil ?_
  refine z_tupleL (SqL.of er2) fun y hy => ?_
  have s8 := Same.new (o := .tup (qs.map V.ref)) hy s7
  have rw8 : PairsT K (upd H7 y (.tup (qs.map V.ref))) y ws := ⟨qs, SqT.of upd_same, All2.imp (fun _ _ h => sqT_new hy h) rq⟩
  have e8 := s8 _ _ e6
  have b8 := SameB.same b6 s8
  have et8 := Same.sqT s8 et6
  have ru8 := ru6.same s8
  generalize upd H7 y (.tup (qs.map V.ref)) = H8 at *
  walk_at "zz"
  refine q _ (b8.put) ⟨t, u, y, ⟨ok, dx, ?_⟩, SqT.putI e8 et8, ru8.putI e8, rw8.putI e8⟩
  rw [upd_same]; rfl

/-! ### data of any depth, as it stays -/
section
variable {K : PySem.W.Frag}
mutual
theorem Dp.same' {H H' : Hp} (s : Same H H') : ∀ (d : PyData) (v : V), Dp K H v d → Dp K H' v d
  | .none, _, h => by cases h; exact .non
  | .bool b, _, h => by cases h; exact .bl b
  | .int i, _, h => by cases h; exact .int i
  | .str x, _, h => by cases h; exact .str x
  | .list ds, _, h => by
    cases h with
    | lst hs ha => exact .lst (Same.seq s hs) (DpAll.same' s ds _ ha)
  | .tuple ds, _, h => by
    cases h with
    | tup hs ha => exact .tup (Same.sqT s hs) (DpAll.same' s ds _ ha)
  | .dict _, _, h => by cases h
theorem DpAll.same' {H H' : Hp} (s : Same H H') : ∀ (ds : List PyData) (vs : List V), DpAll K H vs ds → DpAll K H' vs ds
  | [], _, h => by cases h; exact .nil
  | d :: ds, _, h => by
    cases h with
    | cons h1 h2 => exact .cons (Dp.same' s d _ h1) (DpAll.same' s ds _ h2)
end
variable {H H' : Hp} {v w : V} {d e : PyData} {vs : List V} {ds : List PyData} {p q : Addr} {o : HO}
theorem dpS (s : Same H H') (h : Dp K H v d) : Dp K H' v d := Dp.same' s d v h
theorem dpsS (s : Same H H') (h : DpAll K H vs ds) : DpAll K H' vs ds := DpAll.same' s ds vs h
theorem dpL (h : Dp K H v (.list ds)) : ∃ a xs, v = .ref a ∧ SqL K H a xs ∧ DpAll K H xs ds := by
  cases h with
  | lst hs ha => exact ⟨_, _, rfl, hs, ha⟩
theorem dpT (h : Dp K H v (.tuple ds)) : ∃ a xs, v = .ref a ∧ SqT K H a xs ∧ DpAll K H xs ds := by
  cases h with
  | tup hs ha => exact ⟨_, _, rfl, hs, ha⟩
theorem dpN (h : Dp K H v .none) : v = .non := by cases h; rfl
theorem dpI {i : Int} (h : Dp K H v (.int i)) : v = .int i := by cases h; rfl
theorem dpX {x : Str} (h : Dp K H v (.str x)) : v = .str x := by cases h; rfl
theorem dpB {b : Bool} (h : Dp K H v (.bool b)) : v = .bl b := by cases h; rfl
theorem dps0 (h : DpAll K H vs []) : vs = [] := by cases h; rfl
theorem dpsC (h : DpAll K H vs (d :: ds)) : ∃ v ws, vs = v :: ws ∧ Dp K H v d ∧ DpAll K H ws ds := by
  cases h with
  | cons h1 h2 => exact ⟨_, _, rfl, h1, h2⟩
theorem dpsLen : ∀ {ds : List PyData} {vs : List V}, DpAll K H vs ds → vs.length = ds.length
  | [], _, h => by rw [dps0 h]; rfl
  | d :: ds, _, h => by obtain ⟨v, ws, rfl, _, h2⟩ := dpsC h; simp [dpsLen h2]
theorem dpsGet : ∀ {ds : List PyData} {vs : List V} {i : Nat}, DpAll K H vs ds → (e : PyData) → i < ds.length → ∃ v, vs[i]? = some v ∧ Dp K H v (ds.getD i e)
  | [], _, _, _, _, hi => absurd hi (Nat.not_lt_zero _)
  | d :: ds, _, i, h, e, hi => by
    obtain ⟨v, ws, rfl, h1, h2⟩ := dpsC h
    cases i with
    | zero => exact ⟨v, rfl, h1⟩
    | succ i => obtain ⟨u, a, b⟩ := dpsGet h2 e (by simpa using hi); exact ⟨u, a, b⟩
theorem dpsApp : ∀ {ds : List PyData} {vs : List V}, DpAll K H vs ds → Dp K H v d → DpAll K H (vs ++ [v]) (ds ++ [d])
  | [], _, h, h1 => by rw [dps0 h]; exact .cons h1 .nil
  | _ :: _, _, h, h1 => by obtain ⟨u, ws, rfl, a, b⟩ := dpsC h; exact .cons a (dpsApp b h1)
theorem dpsTake : ∀ {ds : List PyData} {vs : List V} (k : Nat), DpAll K H vs ds → DpAll K H (vs.take k) (ds.take k)
  | [], _, k, h => by rw [dps0 h, List.take_nil, List.take_nil]; exact .nil
  | _ :: _, _, 0, _ => .nil
  | _ :: _, _, k + 1, h => by obtain ⟨u, ws, rfl, a, b⟩ := dpsC h; exact .cons a (dpsTake k b)
theorem dpsDrop : ∀ {ds : List PyData} {vs : List V} (k : Nat), DpAll K H vs ds → DpAll K H (vs.drop k) (ds.drop k)
  | [], _, k, h => by rw [dps0 h, List.drop_nil, List.drop_nil]; exact .nil
  | _ :: _, _, 0, h => h
  | _ :: _, _, k + 1, h => by obtain ⟨u, ws, rfl, a, b⟩ := dpsC h; exact dpsDrop k b
/-- integers, texts -/
abbrev diI (xs : List Int) : List PyData := xs.map PyData.int
abbrev diS (xs : List Str) : List PyData := xs.map PyData.str
theorem dpsI : ∀ {xs : List Int} {vs : List V}, DpAll K H vs (diI xs) → vs = xs.map V.int
  | [], _, h => dps0 h
  | x :: xs, _, h => by obtain ⟨v, ws, rfl, a, b⟩ := dpsC h; rw [dpI a, dpsI b]; rfl
theorem dpsS' : ∀ {xs : List Str} {vs : List V}, DpAll K H vs (diS xs) → vs = xs.map V.str
  | [], _, h => dps0 h
  | x :: xs, _, h => by obtain ⟨v, ws, rfl, a, b⟩ := dpsC h; rw [dpX a, dpsS' b]; rfl
theorem dpsI' : ∀ {xs : List Int}, DpAll K H (xs.map V.int) (diI xs)
  | [] => .nil
  | x :: xs => .cons (.int x) dpsI'
theorem dpsS'' : ∀ {xs : List Str}, DpAll K H (xs.map V.str) (diS xs)
  | [] => .nil
  | x :: xs => .cons (.str x) dpsS''
theorem dpTI {xs : List Int} (h : SqT K H p (xs.map V.int)) : Dp K H (.ref p) (.tuple (diI xs)) := .tup h dpsI'
theorem dpLI {xs : List Int} (h : SqL K H p (xs.map V.int)) : Dp K H (.ref p) (.list (diI xs)) := .lst h dpsI'
theorem dpTI' {xs : List Int} (h : Dp K H v (.tuple (diI xs))) : ∃ a, v = .ref a ∧ SqT K H a (xs.map V.int) := by
  obtain ⟨a, ys, rfl, e, r⟩ := dpT h
  exact ⟨a, rfl, dpsI r ▸ e⟩
theorem dpLI' {xs : List Int} (h : Dp K H v (.list (diI xs))) : ∃ a, v = .ref a ∧ SqL K H a (xs.map V.int) := by
  obtain ⟨a, ys, rfl, e, r⟩ := dpL h
  exact ⟨a, rfl, dpsI r ▸ e⟩
/-- an optional integer -/
def hV : Option Int → V | none => .non | some i => .int i
def hD : Option Int → PyData | none => .none | some i => .int i
theorem dpH {x : Option Int} (h : Dp K H v (hD x)) : v = hV x := by
  cases x with
  | none => exact dpN h
  | some i => exact dpI h
theorem dpH' : ∀ {x : Option Int}, Dp K H (hV x) (hD x)
  | none => .non
  | some i => .int i
theorem flat_hV (x : Option Int) : flatV (hV x) = true := by cases x <;> rfl
theorem z_eqH {a b : Option Int} {Q : VK} (k : Q (.bl (decide (a = b))) H) : uEq K (hV a) (hV b) H Q := by
  cases a with
  | none => cases b with
    | none => exact z_eqN k
    | some j => exact .inl ⟨rfl, by rw [decide_eq_false (by intro z; cases z)]; rw [decide_eq_false (by intro z; cases z)] at k; exact k⟩
  | some i => cases b with
    | none => exact .inl ⟨rfl, by rw [decide_eq_false (by intro z; cases z)]; rw [decide_eq_false (by intro z; cases z)] at k; exact k⟩
    | some j => refine z_eq ?_; rw [show decide (i = j) = decide (some i = some j) by simp]; exact k
end
/-! ### the heap without some of its places -/
open Classical in
noncomputable def hid (H : Hp) (ps : List Addr) : Hp := fun a => if a ∈ ps then none else H a
/-- each of these places is taken -/
def Occ (H : Hp) (ps : List Addr) : Prop := ∀ p ∈ ps, ∃ o, H p = some o
section
variable {K : PySem.W.Frag} {H H' : Hp} {p q : Addr} {o : HO} {ps qs : List Addr}
theorem hid_out {a : Addr} (h : a ∉ ps) : hid H ps a = H a := by unfold hid; rw [if_neg h]
theorem hid_in {a : Addr} (h : a ∈ ps) : hid H ps a = none := by unfold hid; rw [if_pos h]
theorem hid_nil : hid H [] = H := by funext a; exact hid_out (fun z => by cases z)
theorem hid_sub (h : ∀ a ∈ ps, a ∈ qs) : Same (hid H qs) (hid H ps) := fun a o e => by
  by_cases c : a ∈ qs
  · rw [hid_in c] at e; cases e
  · rw [hid_out c] at e; rw [hid_out fun z => c (h a z)]; exact e
theorem hid_le : Same (hid H ps) H := fun a o e => by
  by_cases c : a ∈ ps
  · rw [hid_in c] at e; cases e
  · rw [hid_out c] at e; exact e
theorem hid_same (s : Same H H') : Same (hid H ps) (hid H' ps) := fun a o e => by
  by_cases c : a ∈ ps
  · rw [hid_in c] at e; cases e
  · rw [hid_out c] at e ⊢; exact s a o e
theorem hid_lk {a : Addr} (h : a ∉ ps) (e : H a = some o) : hid H ps a = some o := by rw [hid_out h]; exact e
theorem hid_put (h : p ∈ ps) : hid (upd H p o) ps = hid H ps := by
  funext a
  by_cases c : a ∈ ps
  · rw [hid_in c, hid_in c]
  · rw [hid_out c, hid_out c]; exact upd_ne (fun z => c (z ▸ h))
theorem hid_free (h : H p = none) : Same (hid H ps) (hid H (p :: ps)) := fun a o e => by
  by_cases c : a ∈ ps
  · rw [hid_in c] at e; cases e
  · rw [hid_out c] at e
    refine hid_lk (fun z => ?_) e
    rcases List.mem_cons.mp z with z | z
    · subst z; rw [h] at e; cases e
    · exact c z
theorem hid_new (h : H q = none) : Same (hid H ps) (hid (upd H q o) ps) := hid_same (Same.new h (Same.refl H))
/-- what stood before p was made stays when p is hidden -/
theorem hid_of (h : H p = none) (s : Same (hid H ps) (hid H' ps)) : Same (hid H ps) (hid H' (p :: ps)) := fun a u e => by
  by_cases c : a ∈ ps
  · rw [hid_in c] at e; cases e
  · have e' := e
    rw [hid_out c] at e'
    have x := s a u e
    rw [hid_out c] at x
    refine hid_lk (fun z => ?_) x
    rcases List.mem_cons.mp z with z | z
    · subst z; rw [h] at e'; cases e'
    · exact c z
theorem hid_ofS (h : H p = none) (s : Same H H') : Same (hid H ps) (hid H' (p :: ps)) := hid_of h (hid_same s)
theorem hidS1 (h : H p = none) (s : Same H H') : Same H (hid H' [p]) := fun a u e => hid_lk (fun z => by rw [List.mem_singleton] at z; subst z; rw [h] at e; cases e) (s a u e)
theorem Occ.nil : Occ H [] := fun _ h => by cases h
theorem Occ.cons (h : H p = some o) (t : Occ H ps) : Occ H (p :: ps) := fun a ha => by
  rcases List.mem_cons.mp ha with rfl | ha
  · exact ⟨o, h⟩
  · exact t a ha
theorem Occ.same (s : Same H H') (h : Occ H ps) : Occ H' ps := fun a ha => (h a ha).imp fun _ e => s _ _ e
theorem Occ.put (h : Occ H ps) : Occ (upd H p o) ps := fun a ha => by
  by_cases c : a = p
  · subst c; exact ⟨o, upd_same⟩
  · obtain ⟨u, e⟩ := h a ha; exact ⟨u, lk_ne c e⟩
theorem Occ.no (h : Occ H ps) (hq : H q = none) : q ∉ ps := fun z => by obtain ⟨u, e⟩ := h q z; rw [hq] at e; cases e
theorem dp_newT {xs : List V} {ds : List PyData} (hq : H q = none) (oc : Occ H ps) (h : DpAll K (hid H ps) xs ds) : Dp K (hid (upd H q (.tup xs)) ps) (.ref q) (.tuple ds) :=
  .tup (SqT.of (hid_lk (oc.no hq) upd_same)) (dpsS (hid_new hq) h)
theorem dp_newL {xs : List V} {ds : List PyData} (hq : H q = none) (oc : Occ H ps) (h : DpAll K (hid H ps) xs ds) : Dp K (hid (upd H q (.lst xs)) ps) (.ref q) (.list ds) :=
  .lst (SqL.of (hid_lk (oc.no hq) upd_same)) (dpsS (hid_new hq) h)
theorem dp_nT {xs : List V} {ds : List PyData} (hq : H q = none) (h : DpAll K H xs ds) : Dp K (upd H q (.tup xs)) (.ref q) (.tuple ds) := .tup (SqT.of upd_same) (dpsS (Same.new hq (Same.refl H)) h)
theorem dp_nL {xs : List V} {ds : List PyData} (hq : H q = none) (h : DpAll K H xs ds) : Dp K (upd H q (.lst xs)) (.ref q) (.list ds) := .lst (SqL.of upd_same) (dpsS (Same.new hq (Same.refl H)) h)
/-- a list that may change, with items that stay -/
theorem dpO {xs : List V} {ds : List PyData} (h : H' q = some (.lst xs)) (hq : q ∉ ps) (e : DpAll K (hid H' (q :: ps)) xs ds) : Dp K (hid H' ps) (.ref q) (.list ds) := .lst (SqL.of (hid_lk hq h)) (dpsS (hid_sub fun a ha => List.mem_cons_of_mem _ ha) e)
theorem dpO0 {xs : List V} {ds : List PyData} (h : H' q = some (.lst xs)) (e : DpAll K (hid H' [q]) xs ds) : Dp K H' (.ref q) (.list ds) := .lst (SqL.of h) (dpsS hid_le e)
end
/-- a list or a tuple of data -/
def DpA (K : PySem.W.Frag) (H : Hp) (v : V) (ds : List PyData) : Prop := Dp K H v (.list ds) ∨ Dp K H v (.tuple ds)
theorem DpA.same {K : PySem.W.Frag} {H H' : Hp} {v : V} {ds : List PyData} (s : Same H H') (h : DpA K H v ds) : DpA K H' v ds := h.imp (dpS s) (dpS s)
theorem DpA.sq {K : PySem.W.Frag} {H : Hp} {v : V} {ds : List PyData} (h : DpA K H v ds) : ∃ a xs, v = .ref a ∧ SqA K H a xs ∧ DpAll K H xs ds := by
  rcases h with h | h
  · obtain ⟨a, xs, e, s, r⟩ := dpL h; exact ⟨a, xs, e, .inl s, r⟩
  · obtain ⟨a, xs, e, s, r⟩ := dpT h; exact ⟨a, xs, e, .inr s, r⟩
theorem getD_map {α : Type} {f : α → PyData} {l : List α} {i : Nat} (d : α) (hi : i < l.length) (e : PyData) : (l.map f).getD i e = f (l.getD i d) := by
  rw [List.getD_eq_getElem?_getD, List.getD_eq_getElem?_getD, List.getElem?_map, List.getElem?_eq_getElem hi]; rfl
/-- [g(x) for x in data], where each turn makes new things alone -/
theorem z_lcDp {K : PySem.W.Frag} {α : Type} (dα : α) {f g : α → PyData} {l : List α} {ps : List Addr} {v : V} {gg : TG} {te : TE} {vs : List Nat} {σ : L2.St} {H : Hp} {Q : VK} (h : DpA K (hid H ps) v (l.map f)) (hn : l.length ≤ 1000) (oc : Occ H ps)
    (turn : ∀ (C : Addr) (i : Nat) (x : V) (H' : Hp) (k : VK), i < l.length → Occ H' (C :: ps) → H C = none → Same H H' → Dp K (hid H' (C :: ps)) x (f (l.getD i dα)) → (∀ y H4, Same H' H4 → Dp K (hid H4 (C :: ps)) y (g (l.getD i dα)) → k y H4) →
      gg x (wipe σ vs) H' fun σ2 H2 => wipe σ2 vs = wipe σ vs ∧ te σ2 H2 k)
    (q : ∀ (r : Addr) H', H r = none → Same H H' → Occ H' (r :: ps) → Dp K (hid H' ps) (.ref r) (.list (l.map g)) → Q (.ref r) H') :
    zLcS K gg tYes te vs σ v H Q := by
  obtain ⟨a, xs, rfl, e, r⟩ := h.sq
  have hl : xs.length = l.length := by rw [dpsLen r, List.length_map]
  have trn : ∀ (C : Addr) (i : Nat) (x : V) (H' : Hp), H C = none → xs[i]? = some x → (Same H H' ∧ ∃ ms : List V, H' C = some (.lst ms) ∧ DpAll K (hid H' (C :: ps)) ms ((l.take i).map g)) →
      gg x (wipe σ vs) H' fun σ2 H2 => wipe σ2 vs = wipe σ vs ∧ tYes σ2 H2 fun b H3 =>
        if b = true then te σ2 H3 fun y H4 => ∃ acc, H4 C = some (.lst acc) ∧ acc.length < sizeLine ∧ (Same H (upd H4 C (.lst (acc ++ [y]))) ∧ ∃ ms : List V, upd H4 C (.lst (acc ++ [y])) C = some (.lst ms) ∧ DpAll K (hid (upd H4 C (.lst (acc ++ [y]))) (C :: ps)) ms ((l.take (i + 1)).map g)) else (Same H H3 ∧ ∃ ms : List V, H3 C = some (.lst ms) ∧ DpAll K (hid H3 (C :: ps)) ms ((l.take (i + 1)).map g)) := by
    rintro C i x H' hC hx ⟨s, ms, eC, rm⟩
    have hi : i < xs.length := (List.getElem?_eq_some_iff.mp hx).1
    have hi2 : i < l.length := by omega
    obtain ⟨x', e', dx⟩ := dpsGet r PyData.none (i := i) (by rw [List.length_map]; exact hi2)
    rw [hx] at e'
    obtain rfl := Option.some.inj e'
    rw [getD_map dα hi2] at dx
    refine turn C i x H' _ hi2 ((oc.same s).cons eC) hC s (dpS (hid_ofS hC s) dx) fun y H4 s4 dy => ?_
    have lm := dpsLen rm
    rw [List.length_map, List.length_take] at lm
    refine z_accum (s4 _ _ eC) (by omega) ⟨Same.put hC (Same.trans s s4), ms ++ [y], upd_same, ?_⟩
    rw [hid_put (List.mem_cons_self ..), take_dS dα hi2, List.map_append]
    exact dpsApp (dpsS (hid_same s4) rm) dy
  have fin : ∀ (C : Addr) (H' : Hp), H C = none → (Same H H' ∧ ∃ ms : List V, H' C = some (.lst ms) ∧ DpAll K (hid H' (C :: ps)) ms ((l.take xs.length).map g)) → Q (.ref C) H' := by
    rintro C H' hC ⟨s, ms, eC, rm⟩
    rw [hl, List.take_length] at rm
    exact q C H' hC s ((oc.same s).cons eC) (dpO eC (oc.no hC) rm)
  have st : ∀ C, H C = none → (Same H (upd H C (.lst [])) ∧ ∃ ms : List V, upd H C (.lst []) C = some (.lst ms) ∧ DpAll K (hid (upd H C (.lst [])) (C :: ps)) ms ((l.take 0).map g)) := fun C hC => ⟨Same.new hC (Same.refl H), [], upd_same, .nil⟩
  have sqS : ∀ {H' : Hp}, Same H H' → SqA K H' a xs := fun {H'} s => (e.same hid_le).same s
  rcases e.same hid_le with e | e
  · exact z_lcl e (fun C i H' => Same H H' ∧ ∃ ms : List V, H' C = some (.lst ms) ∧ DpAll K (hid H' (C :: ps)) ms ((l.take i).map g)) st (fun C i H' _ _ z => Same.seq z.1 e) trn fin
  · exact z_lct e (fun C i H' => Same H H' ∧ ∃ ms : List V, H' C = some (.lst ms) ∧ DpAll K (hid H' (C :: ps)) ms ((l.take i).map g)) st (fun C i H' _ _ z => Same.sqT z.1 e) trn fin
/-! ### equal data -/
def lay1 (n : Nat) (d : PyData) : Prop := d.canLay0 = true ∧ d.depth ≤ n
theorem lay1.up {n m : Nat} {d : PyData} (h : n ≤ m) (l : lay1 n d) : lay1 m d := ⟨l.1, Nat.le_trans l.2 h⟩
theorem lay1.none {n : Nat} : lay1 n .none := ⟨rfl, Nat.zero_le _⟩
theorem lay1.int {n : Nat} {i : Int} : lay1 n (.int i) := ⟨rfl, Nat.zero_le _⟩
theorem lay1.bool {n : Nat} {b : Bool} : lay1 n (.bool b) := ⟨rfl, Nat.zero_le _⟩
theorem lay1.h {n : Nat} {x : Option Int} : lay1 n (hD x) := by cases x <;> exact ⟨rfl, Nat.zero_le _⟩
theorem lay_all {n : Nat} : ∀ {ds : List PyData}, (∀ d ∈ ds, lay1 n d) → PyData.canLayAll0 ds = true ∧ PyData.depthAll ds ≤ n
  | [], _ => ⟨by simp only [PyData.canLayAll0], by simp only [PyData.depthAll]; exact Nat.zero_le _⟩
  | d :: ds, h => by
    have h1 := h d (List.mem_cons_self ..)
    have h2 := lay_all fun x hx => h x (List.mem_cons_of_mem _ hx)
    refine ⟨by simp only [PyData.canLayAll0]; rw [h1.1, h2.1]; rfl, ?_⟩
    simp only [PyData.depthAll]
    exact Nat.max_le.mpr ⟨h1.2, h2.2⟩
theorem lay1.list {n : Nat} {ds : List PyData} (h : ∀ d ∈ ds, lay1 n d) : lay1 (n + 1) (.list ds) := ⟨by simp only [PyData.canLay0]; exact (lay_all h).1, by simp only [PyData.depth]; have := (lay_all h).2; omega⟩
theorem lay1.tuple {n : Nat} {ds : List PyData} (h : ∀ d ∈ ds, lay1 n d) : lay1 (n + 1) (.tuple ds) := ⟨by simp only [PyData.canLay0]; exact (lay_all h).1, by simp only [PyData.depth]; have := (lay_all h).2; omega⟩
theorem lay1.ints {n : Nat} {xs : List Int} : ∀ d ∈ diI xs, lay1 n d := fun d h => by
  obtain ⟨i, _, rfl⟩ := List.mem_map.mp h; exact .int
theorem lay1.sh {n : Nat} {d : PyData} (h : lay1 n d) (hn : n ≤ 64) : SeqAt.shaped d = true := by
  unfold SeqAt.shaped; rw [h.1, decide_eq_true (Nat.le_trans h.2 hn)]; rfl
theorem z_eqP {K : PySem.W.Frag} {H : Hp} {p q : Addr} {d : PyData} {n : Nat} {Q : VK} (h1 : Dp K H (.ref p) d) (h2 : Dp K H (.ref q) d) (l : lay1 n d) (hn : n ≤ 64) (k : Q (.bl true) H) : uEq K (.ref p) (.ref q) H Q :=
  z_eqD h1 h2 (l.sh hn) (l.sh hn) (by rw [SeqAt.eqv_refl d l.1]; exact k)
theorem z_whileK {c : TT} {ti : TS} {D : Ends} {σ : L2.St} {H : Hp} (Pv : Nat → L2.St → Hp → Prop) (Ex : L2.St → Hp → Prop) (m : Nat) (h0 : Pv m σ H)
    (hs : ∀ X : L2.St → Hp → Prop, (∀ σ H, Ex σ H → X σ H) → ∀ m σ H, Pv m σ H → c σ H fun b H1 => if b = true then ∃ N : L2.St → Hp → Prop, (∀ σ' H', N σ' H' → ∃ m', m' < m ∧ Pv m' σ' H') ∧ ti { D with nx := N, ct := N, bk := X } σ H1 else X σ H1)
    (hx : ∀ σ H, Ex σ H → D.nx σ H) : tWhile c ti D σ H := ⟨Pv, ⟨m, h0⟩, hs D.nx hx⟩
theorem z_zipL {K : PySem.W.Frag} {σ : L2.St} {H : Hp} {D : Ends} {tb : TS} {a b : Addr} {xs ys : List V} {u v : Nat} (h1 : SqL K H a xs) (h2 : SqL K H b ys) (Pv : Nat → L2.St → Hp → Prop) (h0 : Pv 0 σ H) (hk : ∀ i σ' H', Pv i σ' H' → SqL K H' a xs ∧ SqL K H' b ys)
    (hs : ∀ i x y p σ' H', xs[i]? = some x → ys[i]? = some y → Pv i σ' H' → H' p = none → tb { D with nx := Pv (i + 1), ct := Pv (i + 1), bk := D.nx } ((σ'.set u (some x)).set v (some y)) (upd H' p (.tup [x, y])))
    (hd : ∀ σ' H', Pv (min xs.length ys.length) σ' H' → D.nx σ' H') : zZip K (gTup K 2 (gCons (gName u) (gCons (gName v) gNil))) tb D σ [.ref a, .ref b] H := by
  refine ⟨a, b, xs, ys, rfl, .inl ⟨h1, h2, fun i m σ H => m = min xs.length ys.length - i ∧ i ≤ min xs.length ys.length ∧ Pv i σ H, ⟨_, rfl, Nat.zero_le _, h0⟩, ?_⟩⟩
  rintro i m σ' H' ⟨rfl, hi, p⟩
  obtain ⟨q1, q2⟩ := hk i σ' H' p
  by_cases hlt : i < min xs.length ys.length
  · have l1 : i < xs.length := by omega
    have l2 : i < ys.length := by omega
    refine .inr ⟨⟨xs, ys, xs[i], ys[i], q1, q2, by simp [l1], by simp [l2]⟩, Pv (i + 1), fun σ2 H2 p' => ⟨_, by omega, rfl, by omega, p'⟩, ?_⟩
    rintro x H2 ⟨T, x1, y1, rfl, hT, rfl, f1, f2⟩
    exact ⟨T, [x1, y1], rfl, .inl (.inl upd_same), rfl, x1, [y1], rfl, y1, [], rfl, rfl, hs i x1 y1 T σ' H' (f1 xs q1) (f2 ys q2) p hT⟩
  · have e : i = min xs.length ys.length := by omega
    subst e
    exact .inl ⟨⟨xs, ys, q1, q2, by omega⟩, hd σ' H' p⟩
theorem z_enumAL {K : PySem.W.Frag} {σ : L2.St} {H : Hp} {D : Ends} {tb : TS} {a : Addr} {xs : List V} {u v : Nat} (h : SqL K H a xs) (Pv : Nat → L2.St → Hp → Prop) (h0 : Pv 0 σ H) (hk : ∀ i σ' H', Pv i σ' H' → SqL K H' a xs)
    (hs : ∀ i x p σ' H', xs[i]? = some x → Pv i σ' H' → H' p = none → tb { D with nx := Pv (i + 1), ct := Pv (i + 1), bk := D.nx } ((σ'.set u (some (.int (i : Nat)))).set v (some x)) (upd H' p (.tup [.int (i : Nat), x])))
    (hd : ∀ σ' H', Pv xs.length σ' H' → D.nx σ' H') : zEnumA K (gTup K 2 (gCons (gName u) (gCons (gName v) gNil))) tb D σ [.ref a] H := by
  refine ⟨a, xs, rfl, .inl ⟨h, fun i m σ H => m = xs.length - i ∧ i ≤ xs.length ∧ Pv i σ H, ⟨_, rfl, Nat.zero_le _, h0⟩, ?_⟩⟩
  rintro i m σ' H' ⟨rfl, hi, p⟩
  have q1 := hk i σ' H' p
  by_cases hlt : i < xs.length
  · refine .inr ⟨⟨xs, xs[i], q1, by simp [hlt]⟩, Pv (i + 1), fun σ2 H2 p' => ⟨_, by omega, rfl, by omega, p'⟩, ?_⟩
    rintro x H2 ⟨T, x1, rfl, hT, rfl, f1⟩
    exact ⟨T, [.int (i : Nat), x1], rfl, .inl (.inl upd_same), rfl, .int (i : Nat), [x1], rfl, x1, [], rfl, rfl, hs i x1 T σ' H' (f1 xs q1) p hT⟩
  · have e : i = xs.length := by omega
    subst e
    exact .inl ⟨⟨xs, q1, by omega⟩, hd σ' H' p⟩
abbrev tI (v : List Int) : PyData := .tuple (diI v)
/-- an item of data -/
theorem dpsAt {K : PySem.W.Frag} {H : Hp} {α : Type} (d : α) {f : α → PyData} {l : List α} {xs : List V} (h : DpAll K H xs (l.map f)) {i : Int} (h0 : 0 ≤ i) (h1 : i < l.length) : ∃ v, atI xs i = some v ∧ Dp K H v (f (l.getD i.toNat d)) := by
  have hi : i.toNat < l.length := by omega
  obtain ⟨v, e, dv⟩ := dpsGet h PyData.none (i := i.toNat) (by rw [List.length_map]; exact hi)
  rw [getD_map d hi] at dv
  have hl := dpsLen h
  rw [List.length_map] at hl
  refine ⟨v, ?_, dv⟩
  unfold atI
  rw [ix_at h0 (by omega)]
  exact e
/-! ### the heap without states of draws -/
open Classical in
noncomputable def flt (H : Hp) : Hp := fun a => match H a with | some o => if NotSt o then some o else none | none => none
theorem flt_lk {H : Hp} {a : Addr} {o : HO} (e : H a = some o) (n : NotSt o) : flt H a = some o := by unfold flt; rw [e]; exact if_pos n
theorem flt_inv {H : Hp} {a : Addr} {o : HO} (e : flt H a = some o) : H a = some o ∧ NotSt o := by
  unfold flt at e
  cases h : H a with
  | none => rw [h] at e; cases e
  | some u =>
    rw [h] at e
    by_cases n : NotSt u
    · simp only [if_pos n] at e; cases e; exact ⟨rfl, n⟩
    · simp only [if_neg n] at e; cases e
theorem flt_le {H : Hp} : Same (flt H) H := fun a o e => (flt_inv e).1
theorem flt_exd {H H' : Hp} (x : ExD H H') : Same (flt H) (flt H') := fun a o e => flt_lk (x a o (flt_inv e).2 (flt_inv e).1) (flt_inv e).2
/-- from a heap that is tracked, without p -/
theorem flt_hid {H H' : Hp} {p : Addr} (h : H p = none) (x : ExD H H') : Same (flt H) (hid (flt H') [p]) := fun a o e => hid_lk (fun z => by
  rw [List.mem_singleton] at z; subst z; rw [(flt_inv e).1] at h; cases h) (flt_exd x a o e)
theorem dpsRef {K : PySem.W.Frag} {H : Hp} {α : Type} {f : α → List PyData} : ∀ {l : List α} {ms : List V}, DpAll K H ms (l.map fun x => .tuple (f x)) → ∃ ps : List Addr, ms = ps.map V.ref
  | [], _, h => ⟨[], by rw [dps0 h]; rfl⟩
  | x :: l, _, h => by
    obtain ⟨v, ws, rfl, a, b⟩ := dpsC h
    obtain ⟨p, _, rfl, _, _⟩ := dpT a
    obtain ⟨ps, rfl⟩ := dpsRef b
    exact ⟨p :: ps, rfl⟩

/-! ### training in plain -/
def bestZ (css : List (List Int)) (xs : List Int) : Nat → Nat
  | 0 => 0
  | i + 1 => if distZ (css.getD (i + 1) []) xs < distZ (css.getD (bestZ css xs i) []) xs then i + 1 else bestZ css xs i
theorem bestZ_le (css : List (List Int)) (xs : List Int) : ∀ i, bestZ css xs i ≤ i
  | 0 => Nat.le_refl 0
  | i + 1 => by
    have := bestZ_le css xs i
    unfold bestZ
    split <;> omega
theorem bestZ_s {css : List (List Int)} {xs : List Int} {i : Nat} : bestZ css xs (i + 1) = if distZ (css.getD (i + 1) []) xs < distZ (css.getD (bestZ css xs i) []) xs then i + 1 else bestZ css xs i := rfl
def nearZ (css : List (List Int)) (xs : List Int) : Nat := bestZ css xs (css.length - 1)
/-- all of one size, and of numbers that are not too great -/
def VOk (sz : Nat) (css : List (List Int)) : Prop := ∀ c ∈ css, c.length = sz ∧ Bd 1000000 c
theorem getR_mem {css : List (List Int)} {i : Nat} (h : i < css.length) : css.getD i [] ∈ css := by
  rw [List.getD_eq_getElem?_getD, List.getElem?_eq_getElem h]; exact List.getElem_mem h
theorem VOk.at {sz : Nat} {css : List (List Int)} (h : VOk sz css) {i : Nat} (hi : i < css.length) : (css.getD i []).length = sz ∧ Bd 1000000 (css.getD i []) := h _ (getR_mem hi)
theorem zip_take {α β : Type} : ∀ (l : List α) (pl : List β) (j : Nat), (l.take j).zip pl = (l.zip pl).take j
  | [], pl, j => by simp
  | _ :: _, [], j => by simp
  | a :: l, b :: pl, 0 => by simp
  | a :: l, b :: pl, j + 1 => by simp [zip_take l pl j]
def ownG {α : Type} (l : List α) (pl : List Int) (k : Int) : List α := ((l.zip pl).filter fun z => z.2 == k).map (·.1)
theorem ownG_take {α : Type} {l : List α} {pl : List Int} {k : Int} {i : Nat} (h : i < l.length) (h2 : i < pl.length) : ownG (l.take (i + 1)) pl k = if pl.getD i 0 = k then ownG (l.take i) pl k ++ [l[i]] else ownG (l.take i) pl k := by
  unfold ownG
  rw [zip_take, zip_take, List.take_succ, List.getElem?_eq_getElem (by rw [List.length_zip]; omega), List.getElem_zip]
  have e2 : pl.getD i 0 = pl[i] := by rw [List.getD_eq_getElem?_getD, List.getElem?_eq_getElem h2]; rfl
  rw [e2]
  simp only [Option.toList_some, List.filter_append, List.map_append]
  by_cases hk : pl[i] = k
  · rw [if_pos hk]; simp [hk]
  · rw [if_neg hk]; simp [hk]
theorem All2.own {α β : Type} {R : α → β → Prop} {as : List α} {bs : List β} (h : All2 R as bs) (k : Int) : ∀ pl : List Int, All2 R (ownG as pl k) (ownG bs pl k) := by
  induction h with
  | nil => intro pl; exact .nil
  | cons h t ih =>
    intro pl
    cases pl with
    | nil => exact .nil
    | cons x r =>
      have := ih r
      unfold ownG at *
      simp only [List.zip_cons_cons, List.filter_cons]
      split
      · exact .cons h this
      · exact this
theorem ownG_mem {α : Type} {l : List α} {pl : List Int} {k : Int} {x : α} (h : x ∈ ownG l pl k) : x ∈ l := by
  unfold ownG at h
  obtain ⟨z, hz, rfl⟩ := List.mem_map.mp h
  exact (List.of_mem_zip (List.mem_filter.mp hz).1).1
theorem ownG_len {α : Type} {l : List α} {pl : List Int} {k : Int} : (ownG l pl k).length ≤ l.length := by
  unfold ownG
  rw [List.length_map]
  refine Nat.le_trans (List.length_filter_le _ _) ?_
  rw [List.length_zip]; omega
def colZ (own : List (List Int)) (k : Nat) : List Int := own.map fun v => v.getD k 0
theorem take_sD {α : Type} {l : List α} {i : Nat} (d : α) (h : i < l.length) : l.take (i + 1) = l.take i ++ [l.getD i d] := by
  rw [List.take_succ, List.getD_eq_getElem?_getD, List.getElem?_eq_getElem h]; rfl
theorem colZ_take {own : List (List Int)} {i j : Nat} (h : j < own.length) : colZ (own.take (j + 1)) i = colZ (own.take j) i ++ [(own.getD j []).getD i 0] := by
  unfold colZ; rw [take_sD [] h, List.map_append]; rfl
def meanZ (own : List (List Int)) : List Int := (List.range (own.getD 0 []).length).map fun k => (colZ own k).sum / (own.length : Int)
def moveZ (css vss : List (List Int)) : List (List Int) := (List.range css.length).map fun (k : Nat) =>
  if 0 < (ownG vss (vss.map fun v => (nearZ css v : Int)) (k : Int)).length then meanZ (ownG vss (vss.map fun v => (nearZ css v : Int)) (k : Int)) else css.getD k []
def initZ (vss : List (List Int)) (m : Nat) : List (List Int) := (List.range m).map fun i => vss.getD (i * vss.length / m) []
def trainZ (vss : List (List Int)) (m : Nat) : Nat → List (List Int)
  | 0 => initZ vss m
  | i + 1 => moveZ (trainZ vss m i) vss
theorem sum_bd {b : Int} : ∀ {xs : List Int}, Bd b xs → -(b * xs.length) ≤ xs.sum ∧ xs.sum ≤ b * xs.length
  | [], _ => by simp
  | x :: xs, h => by
    have ih := sum_bd (b := b) (xs := xs) fun y hy => h y (List.mem_cons_of_mem _ hy)
    have hx := h x (List.mem_cons_self ..)
    rw [List.sum_cons, List.length_cons, Int.natCast_add, Int.mul_add]
    generalize b * (xs.length : Int) = u at *
    show -(u + b * 1) ≤ _ ∧ _ ≤ u + b * 1
    omega
theorem mean_bd {b : Int} {xs : List Int} (h : Bd b xs) (h0 : 0 < xs.length) : -b ≤ xs.sum / (xs.length : Int) ∧ xs.sum / (xs.length : Int) ≤ b := by
  obtain ⟨h1, h2⟩ := sum_bd h
  refine ⟨?_, ?_⟩
  · apply Int.le_ediv_of_mul_le (by omega); rw [Int.neg_mul]; exact h1
  · apply Int.ediv_le_of_le_mul (by omega); exact h2
theorem meanZ_ok {sz : Nat} {own : List (List Int)} (o : VOk sz own) (h0 : 0 < own.length) : (meanZ own).length = sz ∧ Bd 1000000 (meanZ own) := by
  refine ⟨by rw [meanZ, List.length_map, List.length_range, (o.at h0).1], fun x hx => ?_⟩
  obtain ⟨k, hk, rfl⟩ := List.mem_map.mp hx
  have hk := List.mem_range.mp hk
  rw [(o.at h0).1] at hk
  have := mean_bd (b := 1000000) (xs := colZ own k) (fun y hy => by
    obtain ⟨v, hv, rfl⟩ := List.mem_map.mp hy
    exact (o v hv).2.at (by rw [(o v hv).1]; exact hk)) (by simpa [colZ] using h0)
  simpa [colZ] using this
theorem moveZ_ok {sz : Nat} {css vss : List (List Int)} (o : VOk sz css) (ov : VOk sz vss) : VOk sz (moveZ css vss) := by
  intro c hc
  obtain ⟨k, hk, rfl⟩ := List.mem_map.mp hc
  have hk := List.mem_range.mp hk
  split
  · rename_i h0
    exact meanZ_ok (fun c hc => ov c (ownG_mem hc)) h0
  · exact o.at hk
theorem moveZ_len {css vss : List (List Int)} : (moveZ css vss).length = css.length := by simp [moveZ]
theorem initZ_len {vss : List (List Int)} {m : Nat} : (initZ vss m).length = m := by simp [initZ]
theorem init_lt {i m n : Nat} (h : i < m) (hn : 0 < n) : i * n / m < n := by
  apply Nat.div_lt_of_lt_mul
  rw [Nat.mul_comm m n, Nat.mul_comm i n]
  exact Nat.mul_lt_mul_of_pos_left h hn
theorem trainZ_len {vss : List (List Int)} {m : Nat} : ∀ i, (trainZ vss m i).length = m
  | 0 => initZ_len
  | i + 1 => by show (moveZ _ _).length = _; rw [moveZ_len]; exact trainZ_len i
theorem trainZ_ok {sz m : Nat} {vss : List (List Int)} (o : VOk sz vss) (hm : m ≤ vss.length) : ∀ i, VOk sz (trainZ vss m i)
  | 0 => fun c hc => by
    obtain ⟨k, hk, rfl⟩ := List.mem_map.mp hc
    have hk := List.mem_range.mp hk
    exact o.at (init_lt hk (by omega))
  | i + 1 => moveZ_ok (trainZ_ok o hm i) o
theorem trainZ_nil {vss : List (List Int)} (i : Nat) : trainZ vss 0 i = [] := List.length_eq_zero_iff.mp (trainZ_len i)
abbrev plZ (css vss : List (List Int)) : List Int := vss.map fun v => (nearZ css v : Int)
theorem plZ_at {css vss : List (List Int)} {i : Nat} (h : i < vss.length) : (plZ css vss).getD i 0 = (nearZ css (vss.getD i []) : Int) := by
  rw [List.getD_eq_getElem?_getD, List.getElem?_map, List.getD_eq_getElem?_getD, List.getElem?_eq_getElem h]; rfl
theorem moveZ_take {css vss : List (List Int)} {i : Nat} (h : i < css.length) : (moveZ css vss).take (i + 1) = (moveZ css vss).take i ++ [if 0 < (ownG vss (plZ css vss) (i : Int)).length then meanZ (ownG vss (plZ css vss) (i : Int)) else css.getD i []] := by
  rw [take_sD [] (by rw [moveZ_len]; exact h)]
  congr 2
  unfold moveZ
  rw [List.getD_eq_getElem?_getD, List.getElem?_map, List.getElem?_range h]
  rfl
theorem initZ_take {vss : List (List Int)} {m i : Nat} (h : i < m) : (initZ vss m).take (i + 1) = (initZ vss m).take i ++ [vss.getD (i * vss.length / m) []] := by
  rw [take_sD [] (by rw [initZ_len]; exact h)]
  congr 2
  unfold initZ
  rw [List.getD_eq_getElem?_getD, List.getElem?_map, List.getElem?_range h]
  rfl
theorem fresh_back {H H' : Hp} {p : Addr} (s : Same H H') (h : H' p = none) : H p = none := by
  cases e : H p with
  | none => rfl
  | some o => rw [s _ _ e] at h; cases h

/-! ### signs and names of fields -/
def letC (c : Nat) : Bool := (decide (97 ≤ c) && decide (c ≤ 122)) || ((decide (65 ≤ c) && decide (c ≤ 90)) || c == 95)
def digC (c : Nat) : Bool := decide (48 ≤ c) && decide (c ≤ 57)
theorem lt_one {c d : Nat} : ([c] : List Nat) < [d] ↔ c < d := by
  rw [List.cons_lt_cons_iff]
  constructor
  · rintro (h | ⟨_, h⟩)
    · exact h
    · exact absurd h (List.lt_irrefl _)
  · exact fun h => .inl h
theorem dec_le {c d : Nat} {x y : Str} (hx : x.cps.toList = [c]) (hy : y.cps.toList = [d]) : (!decide (y.cps.toList < x.cps.toList)) = decide (c ≤ d) := by
  rw [hx, hy, Bool.eq_iff_iff]
  simp only [Bool.not_eq_true', decide_eq_false_iff_not, decide_eq_true_iff, lt_one]
  omega
abbrev one (c : Nat) : Str := ⟨#[c]⟩
theorem one_us (c : Nat) : decide (one c = "_") = (c == 95) := by
  rw [show ("_" : Str) = one 95 by decide +kernel, Bool.eq_iff_iff, decide_eq_true_iff, beq_iff_eq]
  constructor
  · intro h; injection h with h; simpa using h
  · intro h; rw [h]
theorem inV_str (x : Str) (ks : List Str) : inV (.str x) (ks.map V.str) = decide (x ∈ ks) := by
  unfold inV
  rw [Bool.eq_iff_iff, List.any_eq_true, decide_eq_true_iff]
  constructor
  · rintro ⟨y, hy, e⟩
    obtain ⟨m, hm, rfl⟩ := List.mem_map.mp hy
    have : m = x := by simpa [eqV] using e
    rw [← this]; exact hm
  · intro h
    exact ⟨.str x, List.mem_map.mpr ⟨x, h, rfl⟩, by simp [eqV]⟩
theorem flat_strs (ks : List Str) : (ks.map V.str).all flatV = true := by
  rw [List.all_eq_true]
  intro x hx
  obtain ⟨m, _, rfl⟩ := List.mem_map.mp hx
  rfl
def WRD : List Str := ["every", "has", "in", "and", "or", "not", "true", "false"]
def KND : List Str := ["integer", "text", "flag"]
def MSR : List Str := ["square", "dot", "bits"]
def fnZ (x : Str) : Bool := !decide (x = "") && (letC (x.cps.toList.headD 0) && (!decide (x ∈ WRD) && x.cps.toList.all fun c => letC c || digC c))
abbrev N_is_letter : List Str := ["sign"]
-- is_letter(sign): slots 0:sign
def T_is_letter (K : PySem.W.Frag) : TS :=
    (tRet (tOrV (tChain uLe uLe (tC (.str "a")) (tVar 0) (tC (.str "z"))) (tOrV (tChain uLe uLe (tC (.str "A")) (tVar 0) (tC (.str "Z"))) (tOp (uEq K) (tVar 0) (tC (.str "_"))))))

def sp_is_letter (K : PySem.W.Frag) : Sp := fun vs H Q _ => ∃ c : Nat, vs = [.str (one c)] ∧ Q (.bl (letC c)) H
theorem is_letter_c {K : PySem.W.Frag} {c : Nat} {H : Hp} {Q : VK} {E : XK} (q : Q (.bl (letC c)) H) : sp_is_letter K [.str (one c)] H Q E := ⟨c, rfl, q⟩
theorem w_is_letter {K : PySem.W.Frag} : Wd (T_is_letter K) N_is_letter 1 (sp_is_letter K) := fun vs H Q E h => by
  obtain ⟨c, rfl, q⟩ := h
  refine ⟨rfl, ?_⟩
  show T_is_letter K _ [some (.str (one c))] H
  unfold T_is_letter
  walk_at "zz"
  rw [dec_le (x := "a") (y := one c) (c := 97) (d := c) rfl rfl]
  have fin : ∀ b1 : Bool, b1 = (decide (97 ≤ c) && decide (c ≤ 122)) → (if b1 = true then (Q (.bl true) H) else (tOrV (tChain uLe uLe (tC (.str "A")) (tVar 0) (tC (.str "Z"))) (tOp (uEq K) (tVar 0) (tC (.str "_")))) [some (.str (one c))] H Q) := by
    intro b1 e1
    cases b1 with
    | true =>
      rw [if_pos rfl]
      unfold letC at q
      rw [← e1, Bool.true_or] at q
      exact q
    | false =>
      rw [if_neg Bool.false_ne_true]
      unfold letC at q
      rw [← e1, Bool.false_or] at q
      walk_at "zz"
      rw [dec_le (x := "A") (y := one c) (c := 65) (d := c) rfl rfl]
      by_cases c1 : 65 ≤ c
      · rw [decide_eq_true c1] at q ⊢
        walk_at "zx"
        rw [dec_le (x := one c) (y := "Z") (c := c) (d := 90) rfl rfl]
        by_cases c2 : c ≤ 90
        · rw [decide_eq_true c2] at q ⊢
          walk_at "zx"
          exact q
        · rw [decide_eq_false c2] at q ⊢
          walk_at "zx"
          rw [one_us]
          simpa using q
      · rw [decide_eq_false c1] at q ⊢
        walk_at "zx"
        rw [one_us]
        simpa using q
  by_cases c1 : 97 ≤ c
  · rw [decide_eq_true c1] at fin ⊢
    walk_at "zx"
    rw [dec_le (x := one c) (y := "z") (c := c) (d := 122) rfl rfl]
    exact fin _ (by simp)
  · rw [decide_eq_false c1] at fin ⊢
    refine z_iteF ?_
    exact ⟨false, rfl, fin false rfl⟩
abbrev N_is_digit : List Str := ["sign"]
-- is_digit(sign): slots 0:sign
def T_is_digit (K : PySem.W.Frag) : TS :=
    (tRet (tChain uLe uLe (tC (.str "0")) (tVar 0) (tC (.str "9"))))

def sp_is_digit (K : PySem.W.Frag) : Sp := fun vs H Q _ => ∃ c : Nat, vs = [.str (one c)] ∧ Q (.bl (digC c)) H
theorem is_digit_c {K : PySem.W.Frag} {c : Nat} {H : Hp} {Q : VK} {E : XK} (q : Q (.bl (digC c)) H) : sp_is_digit K [.str (one c)] H Q E := ⟨c, rfl, q⟩
theorem w_is_digit {K : PySem.W.Frag} : Wd (T_is_digit K) N_is_digit 1 (sp_is_digit K) := fun vs H Q E h => by
  obtain ⟨c, rfl, q⟩ := h
  refine ⟨rfl, ?_⟩
  show T_is_digit K _ [some (.str (one c))] H
  unfold T_is_digit
  walk_at "zz"
  rw [dec_le (x := "0") (y := one c) (c := 48) (d := c) rfl rfl]
  unfold digC at q
  by_cases c1 : 48 ≤ c
  · rw [decide_eq_true c1] at q ⊢
    walk_at "zx"
    rw [dec_le (x := one c) (y := "9") (c := c) (d := 57) rfl rfl]
    simpa using q
  · rw [decide_eq_false c1] at q ⊢
    walk_at "zx"
    exact q
abbrev N_is_field_name : List Str := ["name", "sign"]
-- is_field_name(name): slots 0:name 1:sign
def T_is_field_name_b1 (K : PySem.W.Frag) : TS :=
    (tIfS (tAnd (tNot (tTru K (tCal (sp_is_letter K) (tCons (tVar 1) tNil)))) (tNot (tTru K (tCal (sp_is_digit K) (tCons (tVar 1) tNil))))) (tRet (tC (.bl false))) tNext)
def T_is_field_name (K : PySem.W.Frag) : TS :=
    (tSeq (tIfS (tOr (tTest (tOp (uEq K) (tVar 0) (tC (.str "")))) (tOr (tNot (tTru K (tCal (sp_is_letter K) (tCons (tOp (uIx K) (tVar 0) (tC (.int 0))) tNil)))) (tTest (tOp (uIn K) (tVar 0) (tCstT K [.str "every", .str "has", .str "in", .str "and", .str "or", .str "not", .str "true", .str "false"]))))) (tRet (tC (.bl false))) tNext)
    (tSeq (tFor (iStr (tVar 0)) (gName 1) (T_is_field_name_b1 K))
    (tRet (tC (.bl true)))))

def sp_is_field_name (K : PySem.W.Frag) : Sp := fun vs H Q _ => ∃ x : Str, vs = [.str x] ∧ x.length ≤ 100000 ∧ Q (.bl (fnZ x)) H
theorem is_field_name_c {K : PySem.W.Frag} {x : Str} {H : Hp} {Q : VK} {E : XK} (h : x.length ≤ 100000) (q : Q (.bl (fnZ x)) H) : sp_is_field_name K [.str x] H Q E := ⟨x, rfl, h, q⟩
theorem w_is_field_name {K : PySem.W.Frag} : Wd (T_is_field_name K) N_is_field_name 1 (sp_is_field_name K) := fun vs H Q E h => by
  obtain ⟨x, rfl, hx, q⟩ := h
  refine ⟨rfl, ?_⟩
  show T_is_field_name K _ [some (.str x), none] H
  unfold T_is_field_name
  walk_at "zz"
  by_cases h0 : x = ""
  · rw [decide_eq_true h0]
    walk_at "zx"
    rw [show fnZ x = false by unfold fnZ; rw [decide_eq_true h0]; rfl] at q
    exact q
  rw [decide_eq_false h0]
  walk_at "zx"
  obtain ⟨c0, r, e0⟩ : ∃ c0 r, x.cps.toList = c0 :: r := by
    cases e : x.cps.toList with
    | nil =>
      exfalso
      cases x with
      | mk a =>
        have z : a = #[] := by simpa using e
        subst z
        exact h0 (by decide +kernel)
    | cons c r => exact ⟨c, r, rfl⟩
  refine ⟨c0, Nat.le_trans hx (by decide), by rw [e0]; unfold atI; rw [ix_at (by decide) (by simp)]; rfl, ?_⟩
  walk_at "zz"
  refine is_letter_c ?_
  walk_at "zz"
  cases hl : letC c0 with
  | false =>
    walk_at "zx"
    rw [show fnZ x = false by unfold fnZ; rw [e0]; show (_ && (letC c0 && _)) = false; rw [hl]; simp] at q
    exact q
  | true =>
  walk_at "zx"
  rename_i T hT
  refine z_in (.inr (hT H)) rfl (flat_strs WRD) ?_
  rw [show ([V.str "every", V.str "has", V.str "in", V.str "and", V.str "or", V.str "not", V.str "true", V.str "false"] : List V) = WRD.map V.str from rfl, inV_str]
  by_cases hw : x ∈ WRD
  · rw [decide_eq_true hw]
    walk_at "zx"
    rw [show fnZ x = false by unfold fnZ; rw [decide_eq_true hw]; simp] at q
    exact q
  rw [decide_eq_false hw]
  walk_at "zx"
  have eq : fnZ x = x.cps.toList.all fun c => letC c || digC c := by
    unfold fnZ
    rw [decide_eq_false h0, decide_eq_false hw, e0]
    show (!false && (letC c0 && _)) = _
    rw [hl]; simp
  refine z_txt (fun i σ H' => H' = H ∧ (∀ c ∈ x.cps.toList.take i, (letC c || digC c) = true) ∧ ∃ w, σ = [some (.str x), w]) ⟨rfl, (fun _ h => nomatch h), _, rfl⟩ ?_ ?_
  · rintro i c σ' H' hc ⟨rfl, ok, w, rfl⟩
    have hc2 : x.cps.toList[i]? = some c := by rw [Array.getElem?_toList]; exact hc
    have memc : c ∈ x.cps.toList := List.mem_of_getElem? hc2
    unfold T_is_field_name_b1
    walk_at "zz"
    refine is_letter_c ?_
    walk_at "zz"
    have step : (letC c || digC c) = true → ∀ d ∈ x.cps.toList.take (i + 1), (letC d || digC d) = true := fun h d hd => by
      rw [List.take_succ, hc2] at hd
      rcases List.mem_append.mp hd with hd | hd
      · exact ok d hd
      · have : d = c := by simpa using hd
        rw [this]; exact h
    cases h1 : letC c with
    | true =>
      walk_at "zx"
      exact ⟨rfl, step (by rw [h1]; rfl), _, rfl⟩
    | false =>
      walk_at "zx"
      refine is_digit_c ?_
      walk_at "zz"
      cases h2 : digC c with
      | true =>
        walk_at "zx"
        exact ⟨rfl, step (by rw [h2]; simp), _, rfl⟩
      | false =>
        walk_at "zx"
        have nf : fnZ x = false := by
          rw [eq, Bool.eq_false_iff]
          intro h
          have := List.all_eq_true.mp h c memc
          rw [h1, h2] at this; cases this
        rw [nf] at q
        exact q
  · rintro σ' H' ⟨rfl, ok, w, rfl⟩
    walk_at "zz"
    rw [show fnZ x = true by
      rw [eq, List.all_eq_true]
      intro c hc
      exact ok c (by rw [List.take_of_length_le (by simp)]; exact hc)] at q
    exact q

/-! ### schemas -/
abbrev RNG : List (Str × DV) := [("bit", .t [.int 0, .int 1]), ("small", .t [.int (-128), .int 127]), ("wide", .t [.int (-32768), .int 32767])]
def WDT : List Str := ["bit", "small", "wide"]
theorem look_rng (w : Str) : (RNG.lookup w).isSome = decide (w ∈ WDT) := by
  unfold RNG WDT
  rw [List.lookup_cons, List.lookup_cons, List.lookup_cons, List.lookup_nil]
  by_cases h1 : w = "bit"
  · subst h1; decide +kernel
  by_cases h2 : w = "small"
  · subst h2; decide +kernel
  by_cases h3 : w = "wide"
  · subst h3; decide +kernel
  rw [beq_eq_false_iff_ne.mpr h1, beq_eq_false_iff_ne.mpr h2, beq_eq_false_iff_ne.mpr h3]
  simp [h1, h2, h3]
def fV (fl : List (Str × Str)) : List (V × V) := fl.map fun x => (.str x.1, .str x.2)
structure SchGood (size : Int) (w m : Str) (fl : List (Str × Str)) : Prop where
  sz : 1 ≤ size
  wd : w ∈ WDT
  ms : m ∈ MSR
  bt : m = "bits" → w = "bit"
  nd : (fl.map (·.1)).Nodup
  fd : ∀ x ∈ fl, x.2 ∈ KND ∧ fnZ x.1 = true
abbrev SCH : List Str := ["size", "width", "measure", "fields"]
abbrev schF (size : Int) (w m : Str) (tf : Addr) : List (Str × V) := [("size", .int size), ("width", .str w), ("measure", .str m), ("fields", .ref tf)]
def SchAt (K : PySem.W.Frag) (c : CEnv) (H : Hp) (p : Addr) (size : Int) (w m : Str) (fl : List (Str × Str)) : Prop := ∃ tf, InsAt K c H p "Schema" (schF size w m tf) ∧ PairsT K H tf (fV fl)
theorem SchAt.same {K : PySem.W.Frag} {c : CEnv} {H H' : Hp} {p : Addr} {size : Int} {w m : Str} {fl : List (Str × Str)} (s : Same H H') (h : SchAt K c H p size w m fl) : SchAt K c H' p size w m fl := let ⟨t, a, b⟩ := h; ⟨t, a.same s, b.same s⟩
/-- over a list or a tuple that stood in an earlier heap -/
theorem z_forA {K : PySem.W.Frag} {σ : L2.St} {H0 H : Hp} {D : Ends} {g : TG} {tb : TS} {a : Addr} {xs : List V} (h : SqA K H0 a xs) (s0 : Same H0 H) (Pv : Nat → L2.St → Hp → Prop) (h0 : Pv 0 σ H) (hk : ∀ i σ' H', Pv i σ' H' → Same H0 H')
    (hs : ∀ i x σ' H', xs[i]? = some x → Pv i σ' H' → g x σ' H' fun σ2 H2 => tb { D with nx := Pv (i + 1), ct := Pv (i + 1), bk := D.nx } σ2 H2) (hd : ∀ σ' H', Pv xs.length σ' H' → D.nx σ' H') : zForS K g tb D σ (.ref a) H := by
  rcases h with h | h
  · exact z_forL (Same.seq s0 h) Pv h0 (fun i σ' H' _ p => Same.seq (hk i σ' H' p) h) hs hd
  · exact z_forT (Same.sqT s0 h) Pv h0 (fun i σ' H' _ p => Same.sqT (hk i σ' H' p) h) hs hd
abbrev dF : Str × Str := ("", "")
theorem fV_at {fl : List (Str × Str)} {i : Nat} (h : i < fl.length) : (fV fl).getD i (V.non, V.non) = (.str (fl.getD i dF).1, .str (fl.getD i dF).2) := by
  unfold fV
  rw [List.getD_eq_getElem?_getD, List.getElem?_map, List.getD_eq_getElem?_getD, List.getElem?_eq_getElem h]; rfl
abbrev N_Schema_init : List Str := ["self", "size", "width", "measure", "fields", "names", "name", "kind"]
-- Schema.__init__(self, size, width, measure, fields): slots 0:self 1:size 2:width 3:measure 4:fields 5:names 6:name 7:kind
def T_Schema_init_b1 (K : PySem.W.Frag) (c : CEnv) (W : WX) : TS :=
    (tSeq (tIfS (tOr (tTest (tOp (uNotIn K) (tVar 7) (tCstT K [.str "integer", .str "text", .str "flag"]))) (tOr (tNot (tTru K (tCal (sp_is_field_name K) (tCons (tVar 6) tNil)))) (tTest (tOp (uIn K) (tVar 6) (tVar 5))))) (sRaise c "InvalidSchema" W) tNext)
    (tDrop (tBM K "list" rAppend (tVar 5) (tCons (tVar 6) tNil))))
def T_Schema_init (K : PySem.W.Frag) (c : CEnv) (W : WX) : TS :=
    (tSeq (tIfS (tOr (tTest (tOp (uLt K) (tVar 1) (tC (.int 1)))) (tOr (tTest (tKout [("bit", .t [.int 0, .int 1]), ("small", .t [.int (-128), .int 127]), ("wide", .t [.int (-32768), .int 32767])] (tVar 2))) (tTest (tOp (uNotIn K) (tVar 3) (tCstT K [.str "square", .str "dot", .str "bits"]))))) (sRaise c "InvalidSchema" W) tNext)
    (tSeq (tIfS (tAnd (tTest (tOp (uEq K) (tVar 3) (tC (.str "bits")))) (tTest (tOp (uNe K) (tVar 2) (tC (.str "bit"))))) (sRaise c "InvalidSchema" W) tNext)
    (tSeq (tAsg (tLst tNil) (gName 5))
    (tSeq (tFor (iSq K (tVar 4)) (gTup K 2 (gCons (gName 6) (gCons (gName 7) gNil))) (T_Schema_init_b1 K c W))
    (tSeq (sFld K (tVar 0) (tVar 1) "size")
    (tSeq (sFld K (tVar 0) (tVar 2) "width")
    (tSeq (sFld K (tVar 0) (tVar 3) "measure")
    (sFld K (tVar 0) (tCB (uTuple K) (tCons (tLc (iSq K (tVar 4)) (gTup K 2 (gCons (gName 6) (gCons (gName 7) gNil))) tYes (tTup (tCons (tVar 6) (tCons (tVar 7) tNil))) [6, 7]) tNil)) "fields"))))))))

def sp_Schema_init (K : PySem.W.Frag) (c : CEnv) : Sp := fun vs H Q E => ∃ (p dx f : Addr) (size : Int) (w m : Str) (fl : List (Str × Str)), vs = [.ref p, .int size, .str w, .str m, .ref f] ∧ ClsOk K c "Schema" ["size", "width", "measure", "fields"] ∧ H p = some (.ins (c.cls "Schema") dx []) ∧
  (∀ H', SameB p H H' → PairsA K H' f (fV fl)) ∧ fl.length ≤ 1000 ∧ (∀ x ∈ fl, x.1.length ≤ 100000) ∧
  (SchGood size w m fl → ∀ H', SameB p H H' → SchAt K c H' p size w m fl → Q .non H') ∧ (¬ SchGood size w m fl → ∀ H', SameB p H H' → E (.ref (c.cls "InvalidSchema")) none H')
theorem w_Schema_init {K : PySem.W.Frag} {c : CEnv} : WdX (T_Schema_init K c) N_Schema_init 5 (sp_Schema_init K c) := fun vs H Q E h => by
  obtain ⟨p, dx, f, size, w, m, fl, rfl, ok, hp, hf, hn, hln, good, bad⟩ := h
  refine ⟨rfl, ?_⟩
  show T_Schema_init K c _ _ [some (.ref p), some (.int size), some (.str w), some (.str m), some (.ref f), none, none, none] H
  have b0 := SameB.refl p H
  unfold T_Schema_init
  walk_at "zz"
  by_cases h1 : size < 1
  · rw [decide_eq_true h1]
    walk_at "zx"
    exact bad (fun g => by have := g.sz; omega) H b0
  rw [decide_eq_false h1]
  walk_at "zx"
  rw [show ([("bit", DV.t [.int 0, .int 1]), ("small", .t [.int (-128), .int 127]), ("wide", .t [.int (-32768), .int 32767])] : List (Str × DV)) = RNG from rfl, look_rng]
  by_cases h2 : w ∈ WDT
  case neg =>
    rw [decide_eq_false h2]
    walk_at "zx"
    exact bad (fun g => h2 g.wd) H b0
  rw [decide_eq_true h2]
  walk_at "zx"
  rename_i T1 hT1
  refine z_notIn (.inr (hT1 H)) rfl (flat_strs MSR) ?_
  rw [show ([V.str "square", V.str "dot", V.str "bits"] : List V) = MSR.map V.str from rfl, inV_str]
  by_cases h3 : m ∈ MSR
  case neg =>
    rw [decide_eq_false h3]
    walk_at "zx"
    exact bad (fun g => h3 g.ms) H b0
  rw [decide_eq_true h3]
  walk_at "zx"
  have cont : (m = "bits" → w = "bit") → ∀ N, H N = none → zForS K (gTup K 2 (gCons (gName 6) (gCons (gName 7) gNil))) (T_Schema_init_b1 K c (fun cls d x H => E cls d H)) { nx := (tSeq (sFld K (tVar 0) (tVar 1) "size") (tSeq (sFld K (tVar 0) (tVar 2) "width") (tSeq (sFld K (tVar 0) (tVar 3) "measure") (sFld K (tVar 0) (tCB (uTuple K) (tCons (tLc (iSq K (tVar 4)) (gTup K 2 (gCons (gName 6) (gCons (gName 7) gNil))) tYes (tTup (tCons (tVar 6) (tCons (tVar 7) tNil))) [6, 7]) tNil)) "fields"))) { nx := fun _ H' => Q .non H', rt := Q }), rt := Q } [some (.ref p), some (.int size), some (.str w), some (.str m), some (.ref f), some (.ref N), none, none] (.ref f) (upd H N (.lst [])) := by
    intro hb N hN
    have bN := b0.new (o := .lst []) hN
    obtain ⟨ps, hps, rps⟩ := hf H b0
    have lps := All2.len rps
    have lfv : (fV fl).length = fl.length := by simp [fV]
    have sN : Same H (upd H N (.lst [])) := Same.new hN (Same.refl H)
    refine z_forA hps sN (fun i σ H' => Same H H' ∧ H' N = some (.lst (((fl.map (·.1)).take i).map V.str)) ∧ ((fl.map (·.1)).take i).Nodup ∧ (∀ x ∈ fl.take i, x.2 ∈ KND ∧ fnZ x.1 = true) ∧ ∃ w6 w7 : Option V, σ = [some (.ref p), some (.int size), some (.str w), some (.str m), some (.ref f), some (.ref N), w6, w7])
      ⟨sN, upd_same, by simp, (fun _ h => nomatch h), _, _, rfl⟩ (fun i σ' H' z => z.1) ?_ ?_
    · rintro i x σ' H' hx ⟨s, eN, nd, ok2, w6, w7, rfl⟩
      obtain ⟨hi, rfl⟩ := map_ref hx
      have hi2 : i < fl.length := by omega
      have bH := SameB.same b0 s
      have memi := getD_mem' dF hi2
      have ep := All2.atD rps 0 (V.non, V.non) (show i < (fV fl).length by omega)
      rw [fV_at hi2] at ep
      have e1 : (fl.map (·.1)).getD i ("" : Str) = (fl.getD i dF).1 := by
        rw [List.getD_eq_getElem?_getD, List.getElem?_map, List.getD_eq_getElem?_getD, List.getElem?_eq_getElem hi2]; rfl
      have tk : (fl.map (·.1)).take (i + 1) = (fl.map (·.1)).take i ++ [(fl.getD i dF).1] := by
        rw [take_dS ("" : Str) (by simpa using hi2), e1]
      refine z_gTup2 (Same.sqT s ep) ?_
      unfold T_Schema_init_b1
      walk_at "zz"
      rename_i T2 hT2
      refine z_notIn (.inr (hT2 _)) rfl (flat_strs KND) ?_
      rw [show ([V.str "integer", V.str "text", V.str "flag"] : List V) = KND.map V.str from rfl, inV_str]
      by_cases c1 : (fl.getD i dF).2 ∈ KND
      case neg =>
        rw [decide_eq_false c1]
        walk_at "zx"
        exact bad (fun g => c1 (g.fd _ memi).1) _ bH
      rw [decide_eq_true c1]
      walk_at "zx"
      refine is_field_name_c (hln _ memi) ?_
      walk_at "zz"
      cases c2 : fnZ (fl.getD i dF).1 with
      | false =>
        walk_at "zx"
        exact bad (fun g => by have := (g.fd _ memi).2; rw [c2] at this; cases this) _ bH
      | true =>
      walk_at "zx"
      refine z_in (.inl (SqL.of eN)) rfl (flat_strs _) ?_
      rw [inV_str]
      by_cases c3 : (fl.getD i dF).1 ∈ (fl.map (·.1)).take i
      · rw [decide_eq_true c3]
        walk_at "zx"
        refine bad (fun g => ?_) _ bH
        have nd2 : ((fl.map (·.1)).take (i + 1)).Nodup := g.nd.sublist (List.take_sublist _ _)
        rw [tk, List.nodup_append] at nd2
        exact nd2.2.2 _ c3 _ (List.mem_singleton.mpr rfl) rfl
      · rw [decide_eq_false c3]
        walk_at "zx"
        refine z_app eN (by rw [List.length_map, List.length_take]; omega) ?_
        refine ⟨Same.put hN s, ?_, ?_, ?_, _, _, rfl⟩
        · rw [upd_same, tk, List.map_append]; rfl
        · rw [tk, List.nodup_append]
          refine ⟨nd, by simp, fun a ha b hb e => ?_⟩
          rw [List.mem_singleton.mp hb] at e
          subst e; exact c3 ha
        · rw [take_dS dF hi2]
          intro x hx
          rcases List.mem_append.mp hx with h | h
          · exact ok2 x h
          · rw [List.mem_singleton.mp h]; exact ⟨c1, c2⟩
    · rintro σ' H1 ⟨s1, eN, nd, ok2, w6, w7, rfl⟩
      rw [List.length_map, lps, lfv] at nd ok2
      rw [List.take_of_length_le (by simp)] at nd
      rw [List.take_length] at ok2
      have G : SchGood size w m fl := ⟨by omega, h2, h3, hb, nd, ok2⟩
      have hp1 := s1 _ _ hp
      have b1 := SameB.same b0 s1
      walk_at "zz"
      rw [upd_upd, upd_upd, show putF "measure" (V.str m) (putF "width" (V.str w) (putF "size" (V.int size) [])) = ([("size", .int size), ("width", .str w), ("measure", .str m)] : List (Str × V)) from rfl]
      have b2 := b1.put (o := .ins (c.cls "Schema") dx [("size", .int size), ("width", .str w), ("measure", .str m)])
      have e2 : upd H1 p (.ins (c.cls "Schema") dx [("size", .int size), ("width", .str w), ("measure", .str m)]) p = some (.ins (c.cls "Schema") dx [("size", .int size), ("width", .str w), ("measure", .str m)]) := upd_same
      generalize upd H1 p (.ins (c.cls "Schema") dx [("size", .int size), ("width", .str w), ("measure", .str m)]) = H2 at *
      refine z_lcPairs (hf _ b2) (by omega) (by walk_at "few") (by walk_at "few") (by decide) fun r H3 nr s3 hr => ?_
      obtain ⟨qs, er, rq⟩ := hr
      refine z_nil ?_
      refine z_tupleL (SqL.of er) fun u hu => ?_
      have s4 := Same.new (o := .tup (qs.map V.ref)) hu s3
      have ru4 : PairsT K (upd H3 u (.tup (qs.map V.ref))) u (fV fl) := ⟨qs, SqT.of upd_same, All2.imp (fun _ _ h => sqT_new hu h) rq⟩
      have e4 := s4 _ _ e2
      have b4 := SameB.same b2 s4
      generalize upd H3 u (.tup (qs.map V.ref)) = H4 at *
      walk_at "zz"
      refine good G _ b4.put ⟨u, ⟨ok, dx, ?_⟩, ru4.putI e4⟩
      rw [upd_same]; rfl
  by_cases h4 : m = "bits"
  · rw [decide_eq_true h4]
    walk_at "zx"
    by_cases h5 : w = "bit"
    · rw [decide_eq_true h5]
      walk_at "zx"
      exact cont (fun _ => h5) _ (by assumption)
    · rw [decide_eq_false h5]
      walk_at "zx"
      exact bad (fun g => h5 (g.bt h4)) H b0
  · rw [decide_eq_false h4]
    walk_at "zx"
    exact cont (fun h => absurd h h4) _ (by assumption)

/-! ### sketches and layouts -/
abbrev Skt : Type := Option Int × List (Int × List Int) × List (List Int × List Int)
abbrev dSk : Skt := (none, [], [])
abbrev ctT (x : Int × List Int) : PyData := .tuple [.int x.1, .tuple (diI x.2)]
abbrev ctL (x : Int × List Int) : PyData := .tuple [.int x.1, .list (diI x.2)]
abbrev clT (x : List Int × List Int) : PyData := .tuple [.tuple (diI x.1), .tuple (diI x.2)]
abbrev clL (x : List Int × List Int) : PyData := .tuple [.list (diI x.1), .list (diI x.2)]
abbrev skD (s : Skt) : PyData := .tuple [hD s.1, .list (s.2.1.map ctL), .list (s.2.2.map clL)]
abbrev SKT : List Str := ["parent", "centres", "cells"]
abbrev skF (h : Option Int) (v1 v2 : V) : List (Str × V) := [("parent", hV h), ("centres", v1), ("cells", v2)]
def SkAt (K : PySem.W.Frag) (c : CEnv) (H : Hp) (p : Addr) (s : Skt) : Prop := ∃ v1 v2, InsAt K c H p "Sketch" (skF s.1 v1 v2) ∧ Dp K H v1 (.tuple (s.2.1.map ctT)) ∧ Dp K H v2 (.tuple (s.2.2.map clT))
theorem SkAt.same {K : PySem.W.Frag} {c : CEnv} {H H' : Hp} {p : Addr} {x : Skt} (s : Same H H') (h : SkAt K c H p x) : SkAt K c H' p x := by
  obtain ⟨v1, v2, i, a, b⟩ := h
  exact ⟨v1, v2, i.same s, dpS s a, dpS s b⟩
def LayAt (K : PySem.W.Frag) (c : CEnv) (H : Hp) (p : Addr) (S : List Skt) (L : List Int) : Prop := ∃ a ps v, InsAt K c H p "Layout" [("sketches", .ref a), ("leaves", v)] ∧ SqT K H a (ps.map V.ref) ∧ All2 (SkAt K c H) ps S ∧ Dp K H v (.tuple (diI L))
theorem LayAt.same {K : PySem.W.Frag} {c : CEnv} {H H' : Hp} {p : Addr} {S : List Skt} {L : List Int} (s : Same H H') (h : LayAt K c H p S L) : LayAt K c H' p S L := by
  obtain ⟨a, ps, v, i, e, r, d⟩ := h
  exact ⟨a, ps, v, i.same s, Same.sqT s e, All2.imp (fun _ _ h => h.same s) r, dpS s d⟩
abbrev N_Sketch_init : List Str := ["self", "parent", "centres", "cells", "start", "centre", "near", "rival"]
-- Sketch.__init__(self, parent, centres, cells): slots 0:self 1:parent 2:centres 3:cells 4:start 5:centre 6:near 7:rival
def T_Sketch_init (K : PySem.W.Frag) : TS :=
    (tSeq (sFld K (tVar 0) (tVar 1) "parent")
    (tSeq (sFld K (tVar 0) (tCB (uTuple K) (tCons (tLc (iSq K (tVar 2)) (gTup K 2 (gCons (gName 4) (gCons (gName 5) gNil))) tYes (tTup (tCons (tVar 4) (tCons (tCB (uTuple K) (tCons (tVar 5) tNil)) tNil))) [4, 5]) tNil)) "centres")
    (sFld K (tVar 0) (tCB (uTuple K) (tCons (tLc (iSq K (tVar 3)) (gTup K 2 (gCons (gName 6) (gCons (gName 7) gNil))) tYes (tTup (tCons (tCB (uTuple K) (tCons (tVar 6) tNil)) (tCons (tCB (uTuple K) (tCons (tVar 7) tNil)) tNil))) [6, 7]) tNil)) "cells")))

def sp_Sketch_init (K : PySem.W.Frag) (c : CEnv) : Sp := fun vs H Q _ => ∃ (p dx : Addr) (s : Skt) (v1 v2 : V) (ps : List Addr), vs = [.ref p, hV s.1, v1, v2] ∧ ClsOk K c "Sketch" SKT ∧ H p = some (.ins (c.cls "Sketch") dx []) ∧ Occ H ps ∧ p ∉ ps ∧ DpA K (hid H (p :: ps)) v1 (s.2.1.map ctT) ∧ DpA K (hid H (p :: ps)) v2 (s.2.2.map clT) ∧ s.2.1.length ≤ 1000 ∧ s.2.2.length ≤ 1000 ∧
  ∀ H', Same (hid H [p]) (hid H' [p]) → SkAt K c (hid H' ps) p s → Q .non H'
theorem Sketch_init_c {K : PySem.W.Frag} {c : CEnv} {p dx : Addr} {s : Skt} {v v1 v2 : V} (ps : List Addr) {H : Hp} {Q : VK} {E : XK} (ok : ClsOk K c "Sketch" SKT) (hp : H p = some (.ins (c.cls "Sketch") dx [])) (oc : Occ H ps) (np : p ∉ ps) (hv : v = hV s.1) (h1 : DpA K (hid H (p :: ps)) v1 (s.2.1.map ctT)) (h2 : DpA K (hid H (p :: ps)) v2 (s.2.2.map clT)) (l1 : s.2.1.length ≤ 1000) (l2 : s.2.2.length ≤ 1000)
    (q : ∀ H', Same (hid H [p]) (hid H' [p]) → SkAt K c (hid H' ps) p s → Q .non H') : sp_Sketch_init K c [.ref p, v, v1, v2] H Q E := ⟨p, dx, s, v1, v2, ps, by rw [hv], ok, hp, oc, np, h1, h2, l1, l2, q⟩
/-- an object's own writes leave what is hidden as it is -/
theorem hid1 {H : Hp} {p : Addr} {o : HO} {ps : List Addr} : Same (hid H (p :: ps)) (hid (upd H p o) (p :: ps)) := by rw [hid_put (List.mem_cons_self ..)]; exact Same.refl _
theorem dp_tupL {K : PySem.W.Frag} {H : Hp} {ps : List Addr} {r : Addr} {ds : List PyData} {Q : VK} (h : Dp K (hid H ps) (.ref r) (.list ds)) (oc : Occ H ps) (k : ∀ (t : Addr) H', H t = none → Same H H' → Dp K (hid H' ps) (.ref t) (.tuple ds) → Q (.ref t) H') : uTuple K [.ref r] H Q := by
  obtain ⟨a, xs, e, s, d⟩ := dpL h
  cases e
  exact z_tupleL (Same.seq hid_le s) fun t ht => k t _ ht (Same.new ht (Same.refl H)) (dp_newT ht oc d)
theorem w_Sketch_init {K : PySem.W.Frag} {c : CEnv} : Wd (T_Sketch_init K) N_Sketch_init 4 (sp_Sketch_init K c) := fun vs H Q E h => by
  obtain ⟨p, dx, ⟨h, cs, es⟩, v1, v2, ps, rfl, ok, hp, oc, np, h1, h2, l1, l2, q⟩ := h
  refine ⟨rfl, ?_⟩
  show T_Sketch_init K _ [some (.ref p), some (hV h), some v1, some v2, none, none, none, none] H
  unfold T_Sketch_init
  walk_at "zz"
  rw [show putF "parent" (hV h) ([] : List (Str × V)) = ([("parent", hV h)] : List (Str × V)) from rfl]
  have e1 : upd H p (.ins (c.cls "Sketch") dx [("parent", hV h)]) p = some (.ins (c.cls "Sketch") dx [("parent", hV h)]) := upd_same
  have s1 : ∀ {qs : List Addr}, Same (hid H (p :: qs)) (hid (upd H p (.ins (c.cls "Sketch") dx [("parent", hV h)])) (p :: qs)) := hid1
  have oc1 : Occ (upd H p (.ins (c.cls "Sketch") dx [("parent", hV h)])) (p :: ps) := Occ.cons upd_same oc.put
  generalize upd H p (.ins (c.cls "Sketch") dx [("parent", hV h)]) = H1 at *
  refine z_lcDp (f := ctT) (g := ctT) (0, []) (ps := p :: ps) (h1.same s1) l1 oc1 ?_ ?_
  · intro C i x H' k hi oc hC s dy q'
    obtain ⟨t, xs, rfl, et, r⟩ := dpT dy
    obtain ⟨y1, w1, rfl, d1, r⟩ := dpsC r
    obtain ⟨y2, w2, rfl, d2, r⟩ := dpsC r
    obtain rfl := dps0 r
    obtain rfl := dpI d1
    obtain ⟨b, rfl, eb⟩ := dpTI' d2
    refine z_gTup2 (Same.sqT hid_le et) ⟨rfl, ?_⟩
    walk_at "zz"
    refine z_tupleT (Same.sqT hid_le eb) ?_
    walk_at "zz"
    rename_i t2 ht2
    exact q' _ _ (Same.new ht2 (Same.refl _)) (dp_newT ht2 oc (.cons (.int _) (.cons d2 .nil)))
  intro r H2 hr s2 oc2' d2
  have e2 := s2 _ _ e1
  walk_at "zz"
  refine dp_tupL d2 (oc1.same s2) fun t H3 ht s3 d3 => ?_
  have e3 := s3 _ _ e2
  walk_at "zz"
  rw [show putF "centres" (V.ref t) ([("parent", hV h)] : List (Str × V)) = ([("parent", hV h), ("centres", .ref t)] : List (Str × V)) from rfl]
  have e4 : upd H3 p (.ins (c.cls "Sketch") dx [("parent", hV h), ("centres", .ref t)]) p = some (.ins (c.cls "Sketch") dx [("parent", hV h), ("centres", .ref t)]) := upd_same
  have s4 : ∀ {qs : List Addr}, Same (hid H3 (p :: qs)) (hid (upd H3 p (.ins (c.cls "Sketch") dx [("parent", hV h), ("centres", .ref t)])) (p :: qs)) := hid1
  have oc4 : Occ (upd H3 p (.ins (c.cls "Sketch") dx [("parent", hV h), ("centres", .ref t)])) (p :: ps) := Occ.put (oc1.same (Same.trans s2 s3))
  generalize upd H3 p (.ins (c.cls "Sketch") dx [("parent", hV h), ("centres", .ref t)]) = H4 at *
  have s14 : ∀ {qs : List Addr}, Same (hid H (p :: qs)) (hid H4 (p :: qs)) := fun {qs} => Same.trans s1 (Same.trans (hid_same (Same.trans s2 s3)) s4)
  refine z_lcDp (f := clT) (g := clT) ([], []) (ps := p :: ps) (h2.same s14) l2 oc4 ?_ ?_
  · intro C i x H' k hi oc hC s dy q'
    obtain ⟨t, xs, rfl, et, r⟩ := dpT dy
    obtain ⟨y1, w1, rfl, d1, r⟩ := dpsC r
    obtain ⟨y2, w2, rfl, d2, r⟩ := dpsC r
    obtain rfl := dps0 r
    obtain ⟨a, rfl, ea⟩ := dpTI' d1
    obtain ⟨b, rfl, eb⟩ := dpTI' d2
    refine z_gTup2 (Same.sqT hid_le et) ⟨rfl, ?_⟩
    walk_at "zz"
    refine z_tupleT (Same.sqT hid_le ea) ?_
    walk_at "zz"
    refine z_tupleT (Same.sqT hid_le eb) ?_
    walk_at "zz"
    rename_i t2 ht2
    exact q' _ _ (Same.new ht2 (Same.refl _)) (dp_newT ht2 oc (.cons d1 (.cons d2 .nil)))
  intro r5 H5 hr5 s5 oc5' d5
  have e5 := s5 _ _ e4
  walk_at "zz"
  refine dp_tupL d5 (oc4.same s5) fun t6 H6 ht6 s6 d6 => ?_
  have e6 := s6 _ _ e5
  walk_at "zz"
  rw [show putF "cells" (V.ref t6) ([("parent", hV h), ("centres", .ref t)] : List (Str × V)) = skF h (.ref t) (.ref t6) from rfl]
  have s7 : ∀ {qs : List Addr}, Same (hid H6 (p :: qs)) (hid (upd H6 p (.ins (c.cls "Sketch") dx (skF h (.ref t) (.ref t6)))) (p :: qs)) := hid1
  have s47 : ∀ {qs : List Addr}, Same (hid H4 (p :: qs)) (hid (upd H6 p (.ins (c.cls "Sketch") dx (skF h (.ref t) (.ref t6)))) (p :: qs)) := fun {qs} => Same.trans (hid_same (Same.trans s5 s6)) s7
  have sub : ∀ {H' : Hp}, Same (hid H' (p :: ps)) (hid H' ps) := fun {H'} => hid_sub fun a h => List.mem_cons_of_mem _ h
  refine q _ (Same.trans s14 s47) ⟨.ref t, .ref t6, ⟨ok, dx, hid_lk np upd_same⟩, dpS sub (dpS (Same.trans s4 s47) d3), dpS sub (dpS s7 d6)⟩
abbrev N_Layout_init : List Str := ["self", "sketches", "leaves"]
-- Layout.__init__(self, sketches, leaves): slots 0:self 1:sketches 2:leaves
def T_Layout_init (K : PySem.W.Frag) : TS :=
    (tSeq (sFld K (tVar 0) (tCB (uTuple K) (tCons (tVar 1) tNil)) "sketches")
    (sFld K (tVar 0) (tCB (uTuple K) (tCons (tVar 2) tNil)) "leaves"))

def sp_Layout_init (K : PySem.W.Frag) (c : CEnv) : Sp := fun vs H Q _ => ∃ (p dx a b : Addr) (ps : List Addr) (S : List Skt) (L : List Int), vs = [.ref p, .ref a, .ref b] ∧ ClsOk K c "Layout" ["sketches", "leaves"] ∧ H p = some (.ins (c.cls "Layout") dx []) ∧ SqL K (hid H [p]) a (ps.map V.ref) ∧ All2 (SkAt K c (hid H [p])) ps S ∧ SqL K (hid H [p]) b (L.map V.int) ∧
  ∀ H', Same (hid H [p]) (hid H' [p]) → LayAt K c H' p S L → Q .non H'
theorem Layout_init_c {K : PySem.W.Frag} {c : CEnv} {p dx a b : Addr} {ps : List Addr} {S : List Skt} {L : List Int} {H : Hp} {Q : VK} {E : XK} (ok : ClsOk K c "Layout" ["sketches", "leaves"]) (hp : H p = some (.ins (c.cls "Layout") dx [])) (h1 : SqL K (hid H [p]) a (ps.map V.ref)) (r : All2 (SkAt K c (hid H [p])) ps S) (h2 : SqL K (hid H [p]) b (L.map V.int))
    (q : ∀ H', Same (hid H [p]) (hid H' [p]) → LayAt K c H' p S L → Q .non H') : sp_Layout_init K c [.ref p, .ref a, .ref b] H Q E := ⟨p, dx, a, b, ps, S, L, rfl, ok, hp, h1, r, h2, q⟩
theorem w_Layout_init {K : PySem.W.Frag} {c : CEnv} : Wd (T_Layout_init K) N_Layout_init 3 (sp_Layout_init K c) := fun vs H Q E h => by
  obtain ⟨p, dx, a, b, ps, S, L, rfl, ok, hp, h1, r, h2, q⟩ := h
  refine ⟨rfl, ?_⟩
  show T_Layout_init K _ [some (.ref p), some (.ref a), some (.ref b)] H
  unfold T_Layout_init
  walk_at "zz"
  refine z_tupleL (Same.seq hid_le h1) fun t ht => ?_
  have n1 : t ≠ p := fun z => by subst z; rw [ht] at hp; cases hp
  have e1 := lk_new (o := .tup (ps.map V.ref)) ht hp
  have et1 : upd H t (.tup (ps.map V.ref)) t = some (.tup (ps.map V.ref)) := upd_same
  have s1 : Same (hid H [p]) (hid (upd H t (.tup (ps.map V.ref))) [p]) := hid_new ht
  generalize upd H t (.tup (ps.map V.ref)) = H1 at *
  walk_at "zz"
  rw [show putF "sketches" (V.ref t) ([] : List (Str × V)) = ([("sketches", .ref t)] : List (Str × V)) from rfl]
  have e2 : upd H1 p (.ins (c.cls "Layout") dx [("sketches", .ref t)]) p = some (.ins (c.cls "Layout") dx [("sketches", .ref t)]) := upd_same
  have et2 : upd H1 p (.ins (c.cls "Layout") dx [("sketches", .ref t)]) t = some (.tup (ps.map V.ref)) := lk_ne n1 et1
  have s2 : Same (hid H1 [p]) (hid (upd H1 p (.ins (c.cls "Layout") dx [("sketches", .ref t)])) [p]) := hid1
  generalize upd H1 p (.ins (c.cls "Layout") dx [("sketches", .ref t)]) = H2 at *
  have s02 := Same.trans s1 s2
  refine z_tupleL (Same.seq hid_le (Same.seq s02 h2)) fun u hu => ?_
  have n3 : u ≠ p := fun z => by subst z; rw [hu] at e2; cases e2
  have e3 := lk_new (o := .tup (L.map V.int)) hu e2
  have et3 := lk_new (o := .tup (L.map V.int)) hu et2
  have eu3 : upd H2 u (.tup (L.map V.int)) u = some (.tup (L.map V.int)) := upd_same
  have s3 : Same (hid H2 [p]) (hid (upd H2 u (.tup (L.map V.int))) [p]) := hid_new hu
  generalize upd H2 u (.tup (L.map V.int)) = H3 at *
  walk_at "zz"
  rw [show putF "leaves" (V.ref u) ([("sketches", .ref t)] : List (Str × V)) = ([("sketches", .ref t), ("leaves", .ref u)] : List (Str × V)) from rfl]
  have s4 : Same (hid H3 [p]) (hid (upd H3 p (.ins (c.cls "Layout") dx [("sketches", .ref t), ("leaves", .ref u)])) [p]) := hid1
  have s04 := Same.trans s02 (Same.trans s3 s4)
  exact q _ s04 ⟨t, ps, .ref u, ⟨ok, dx, upd_same⟩, SqT.of (lk_ne n1 et3), All2.imp (fun _ _ h => h.same (Same.trans s04 hid_le)) r, dpTI (SqT.of (lk_ne n3 eu3))⟩
abbrev N_law_shown : List Str := ["_law_layout", "_law_shown_here", "_law_sketch", "_law_centres", "_law_start", "_law_centre", "_law_cells", "_law_near", "_law_rival"]
-- _law_shown(_law_layout): slots 0:_law_layout 1:_law_shown_here 2:_law_sketch 3:_law_centres 4:_law_start 5:_law_centre 6:_law_cells 7:_law_near 8:_law_rival
def T_law_shown_b1 (K : PySem.W.Frag) : TS :=
    (tSeq (tAsg (tLc (iSq K (tFld K (tVar 2) "centres")) (gTup K 2 (gCons (gName 4) (gCons (gName 5) gNil))) tYes (tTup (tCons (tVar 4) (tCons (tCB (uList K) (tCons (tVar 5) tNil)) tNil))) [4, 5]) (gName 3))
    (tSeq (tAsg (tLc (iSq K (tFld K (tVar 2) "cells")) (gTup K 2 (gCons (gName 7) (gCons (gName 8) gNil))) tYes (tTup (tCons (tCB (uList K) (tCons (tVar 7) tNil)) (tCons (tCB (uList K) (tCons (tVar 8) tNil)) tNil))) [7, 8]) (gName 6))
    (tDrop (tBM K "list" rAppend (tVar 1) (tCons (tTup (tCons (tFld K (tVar 2) "parent") (tCons (tVar 3) (tCons (tVar 6) tNil)))) tNil)))))
def T_law_shown (K : PySem.W.Frag) : TS :=
    (tSeq (tAsg (tLst tNil) (gName 1))
    (tSeq (tFor (iSq K (tFld K (tVar 0) "sketches")) (gName 2) (T_law_shown_b1 K))
    (tRet (tTup (tCons (tVar 1) (tCons (tCB (uList K) (tCons (tFld K (tVar 0) "leaves") tNil)) tNil))))))

def sp_law_shown (K : PySem.W.Frag) (c : CEnv) : Sp := fun vs H Q _ => ∃ (p : Addr) (S : List Skt) (L : List Int), vs = [.ref p] ∧ LayAt K c H p S L ∧ S.length ≤ 1000 ∧ (∀ s ∈ S, s.2.1.length ≤ 1000 ∧ s.2.2.length ≤ 1000) ∧
  ∀ (t a b : Addr) H', Same H H' → H' t = some (.tup [.ref a, .ref b]) → Dp K H' (.ref a) (.list (S.map skD)) → H' b = some (.lst (L.map V.int)) → Q (.ref t) H'
theorem law_shown_c {K : PySem.W.Frag} {c : CEnv} {p : Addr} {S : List Skt} {L : List Int} {H : Hp} {Q : VK} {E : XK} (h : LayAt K c H p S L) (l : S.length ≤ 1000) (l2 : ∀ s ∈ S, s.2.1.length ≤ 1000 ∧ s.2.2.length ≤ 1000)
    (q : ∀ (t a b : Addr) H', Same H H' → H' t = some (.tup [.ref a, .ref b]) → Dp K H' (.ref a) (.list (S.map skD)) → H' b = some (.lst (L.map V.int)) → Q (.ref t) H') : sp_law_shown K c [.ref p] H Q E := ⟨p, S, L, rfl, h, l, l2, q⟩
theorem w_law_shown {K : PySem.W.Frag} {c : CEnv} : Wd (T_law_shown K) N_law_shown 1 (sp_law_shown K c) := fun vs H Q E h => by
  obtain ⟨p, S, L, rfl, lay, lS, lI, q⟩ := h
  obtain ⟨a, ps, v, ins, ea, rr, dv⟩ := lay
  have hl := All2.len rr
  obtain ⟨b, rfl, eb⟩ := dpTI' dv
  obtain ⟨okL, dxL, eL⟩ := ins
  refine ⟨rfl, ?_⟩
  show T_law_shown K _ [some (.ref p), none, none, none, none, none, none, none, none] H
  unfold T_law_shown
  walk_at "zz"
  rename_i r hr
  walk_at "zz"
  refine z_forT (sqT_new hr ea) (fun i σ H' => Same H H' ∧ (∃ (v2 v3 v4 v5 v6 v7 v8 : Option V), σ = [some (.ref p), some (.ref r), v2, v3, v4, v5, v6, v7, v8]) ∧ ∃ ms : List V, H' r = some (.lst ms) ∧ DpAll K (hid H' [r]) ms ((S.take i).map skD)) ⟨Same.new hr (Same.refl H), ⟨_, _, _, _, _, _, _, rfl⟩, [], upd_same, .nil⟩ (fun i σ' H' _ z => Same.sqT z.1 ea) ?_ ?_
  · rintro i σ x H1 hx ⟨s1, ⟨v2, v3, v4, v5, v6, v7, v8, rfl⟩, ms, er, rm⟩
    obtain ⟨hi, rfl⟩ := map_ref hx
    have hi2 : i < S.length := by omega
    have sk := (All2.atD rr 0 dSk hi2).same (hidS1 hr s1)
    have lm := dpsLen rm
    rw [List.length_map, List.length_take] at lm
    generalize ps.getD i 0 = z at *
    have hI := lI _ (getD_mem' dSk hi2)
    generalize hx : S.getD i dSk = x at *
    obtain ⟨h0, cs, es⟩ := x
    obtain ⟨w1, w2, ik, dc, de⟩ := sk
    obtain ⟨okS, dxS, eS⟩ := ik.same hid_le
    unfold T_law_shown_b1
    walk_at "zz"
    refine z_lcDp (f := ctT) (g := ctL) (0, []) (ps := [r]) (.inr dc) hI.1 (Occ.nil.cons er) ?_ ?_
    · intro C j x H' k hj oc hC s dy q'
      obtain ⟨t, xs, rfl, et, r'⟩ := dpT dy
      obtain ⟨y1, u1, rfl, d1, r'⟩ := dpsC r'
      obtain ⟨y2, u2, rfl, d2, r'⟩ := dpsC r'
      obtain rfl := dps0 r'
      obtain rfl := dpI d1
      obtain ⟨b, rfl, eb⟩ := dpTI' d2
      refine z_gTup2 (Same.sqT hid_le et) ⟨rfl, ?_⟩
      walk_at "zz"
      refine z_list (.inr (Same.sqT hid_le eb)) fun l hl => ?_
      walk_at "zz"
      rename_i t2 ht2
      exact q' _ _ (Same.new ht2 (Same.new hl (Same.refl _))) (dp_newT ht2 (oc.same (Same.new hl (Same.refl _))) (.cons (.int _) (.cons (dp_newL hl oc dpsI') .nil)))
    intro r2 H2 hr2 s2 oc2 d2
    have eS2 := s2 _ _ eS
    walk_at "zz"
    refine z_lcDp (f := clT) (g := clL) ([], []) (ps := [r]) (.inr (dpS (hid_same s2) de)) hI.2 (Occ.nil.cons (s2 _ _ er)) ?_ ?_
    · intro C j x H' k hj oc hC s dy q'
      obtain ⟨t, xs, rfl, et, r'⟩ := dpT dy
      obtain ⟨y1, u1, rfl, d1, r'⟩ := dpsC r'
      obtain ⟨y2, u2, rfl, d2, r'⟩ := dpsC r'
      obtain rfl := dps0 r'
      obtain ⟨a, rfl, ea⟩ := dpTI' d1
      obtain ⟨b, rfl, eb⟩ := dpTI' d2
      refine z_gTup2 (Same.sqT hid_le et) ⟨rfl, ?_⟩
      walk_at "zz"
      refine z_list (.inr (Same.sqT hid_le ea)) fun l hl => ?_
      walk_at "zz"
      refine z_list (.inr (sqT_new hl (Same.sqT hid_le eb))) fun l2 hl2 => ?_
      walk_at "zz"
      rename_i t2 ht2
      exact q' _ _ (Same.new ht2 (Same.new hl2 (Same.new hl (Same.refl _)))) (dp_newT ht2 ((oc.same (Same.new hl (Same.refl _))).same (Same.new hl2 (Same.refl _))) (.cons (dpS (hid_new hl2) (dp_newL hl oc dpsI')) (.cons (dp_newL hl2 (oc.same (Same.new hl (Same.refl _))) dpsI') .nil)))
    intro r3 H3 hr3 s3 oc3 d3
    have eS3 := s3 _ _ eS2
    have er3 := s3 _ _ (s2 _ _ er)
    walk_at "zz"
    rename_i t ht
    have er4 := lk_new (o := .tup [hV h0, .ref r2, .ref r3]) ht er3
    refine z_app er4 (by omega) ?_
    have s4 : Same H1 (upd H3 t (.tup [hV h0, .ref r2, .ref r3])) := Same.new ht (Same.trans s2 s3)
    refine ⟨Same.put hr (Same.trans s1 s4), ⟨_, _, _, _, _, _, _, rfl⟩, ms ++ [.ref t], upd_same, ?_⟩
    rw [hid_put (List.mem_cons_self ..), take_dS dSk hi2, List.map_append, hx]
    exact dpsApp (dpsS (hid_same s4) rm) (dp_newT ht (Occ.nil.cons er3) (.cons dpH' (.cons (dpS (hid_same s3) d2) (.cons d3 .nil))))
  · rintro σ H1 ⟨s1, ⟨v2, v3, v4, v5, v6, v7, v8, rfl⟩, ms, er, rm⟩
    rw [List.length_map, hl, List.take_length] at rm
    have eL1 := s1 _ _ eL
    have eb1 := Same.sqT s1 eb
    walk_at "zz"
    rename_i l hl2 t ht
    exact q t r l _ (Same.new ht (Same.new hl2 s1)) upd_same (dpO0 (lk_new ht (lk_new hl2 er)) (dpsS (hid_same (Same.new ht (Same.new hl2 (Same.refl _)))) rm)) (lk_new ht upd_same)

abbrev N_nearest : List Str := ["centres", "vector", "best", "place"]
-- nearest(centres, vector): slots 0:centres 1:vector 2:best 3:place
def T_nearest_b1 (K : PySem.W.Frag) : TS :=
    (tIfS (tTest (tOp (uLt K) (tCal (sp_distance K) (tCons (tOp (uIx K) (tVar 0) (tVar 3)) (tCons (tVar 1) tNil))) (tCal (sp_distance K) (tCons (tOp (uIx K) (tVar 0) (tVar 2)) (tCons (tVar 1) tNil))))) (tAsg (tVar 3) (gName 2)) tNext)
def T_nearest (K : PySem.W.Frag) : TS :=
    (tSeq (tAsg (tC (.int 0)) (gName 2))
    (tSeq (tFor (iRng2 (tCons (tC (.int 1)) (tCons (tCB (uLen K) (tCons (tVar 0) tNil)) tNil))) (gName 3) (T_nearest_b1 K))
    (tRet (tVar 2))))

def sp_nearest (K : PySem.W.Frag) : Sp := fun vs H Q _ => ∃ (p v : Addr) (css : List (List Int)) (xs : List Int), vs = [.ref p, .ref v] ∧ Dp K H (.ref p) (.list (css.map tI)) ∧ SqT K H v (xs.map V.int) ∧ VOk xs.length css ∧ Bd 1000000 xs ∧ css.length ≤ 1000 ∧ ∀ H', Same H H' → Q (.int (nearZ css xs)) H'
theorem nearest_c {K : PySem.W.Frag} {p v : Addr} {css : List (List Int)} {xs : List Int} {H : Hp} {Q : VK} {E : XK} (e : Dp K H (.ref p) (.list (css.map tI))) (ev : SqT K H v (xs.map V.int)) (o : VOk xs.length css) (ob : Bd 1000000 xs) (hn : css.length ≤ 1000) (q : ∀ H', Same H H' → Q (.int (nearZ css xs)) H') : sp_nearest K [.ref p, .ref v] H Q E := ⟨p, v, css, xs, rfl, e, ev, o, ob, hn, q⟩
theorem w_nearest {K : PySem.W.Frag} : Wd (T_nearest K) N_nearest 2 (sp_nearest K) := fun vs H Q E h => by
  obtain ⟨p, v, css, xs, rfl, e, ev, o, ob, hn, q⟩ := h
  obtain ⟨p', zs, e0, ep, rr⟩ := dpL e
  cases e0
  have hl := dpsLen rr
  rw [List.length_map] at hl
  refine ⟨rfl, ?_⟩
  show T_nearest K _ [some (.ref p), some (.ref v), none, none] H
  unfold T_nearest
  walk_at "zz"
  try refine z_len (.inl ep) ?_
  walk_at "zz"
  rw [hl]
  refine z_rng2 (z_rng (fun i σ H' => Same H H' ∧ ∃ w, σ = [some (.ref p), some (.ref v), some (.int (bestZ css xs i)), w]) ⟨Same.refl H, none, rfl⟩ ?_ ?_) (by omega)
  · rintro i σ H' hi ⟨s, w, rfl⟩
    have hb := bestZ_le css xs i
    have hi2 : i + 1 < css.length := by omega
    have en : (1 + (i : Int)).toNat = i + 1 := by omega
    obtain ⟨u1, a1, d1⟩ := dpsAt [] rr (i := 1 + (i : Int)) (by omega) (by omega)
    rw [en] at d1
    obtain ⟨b1, rfl, e1⟩ := dpTI' d1
    obtain ⟨u2, a2, d2⟩ := dpsAt [] rr (i := ((bestZ css xs i : Nat) : Int)) (by omega) (by omega)
    rw [Int.toNat_natCast] at d2
    obtain ⟨b2, rfl, e2⟩ := dpTI' d2
    unfold T_nearest_b1
    have ep1 := Same.seq s ep
    walk_at "zz"
    try refine z_ix (.inl ep1) a1 ?_
    walk_at "zz"
    refine distance_c (.inr ⟨Same.sqT s e1, Same.sqT s ev⟩) (o.at hi2).1 ((o.at hi2).2.mono (by decide)) (ob.mono (by decide)) fun H1 s1 => ?_
    have s1 := s.trans s1
    have ep2 := Same.seq s1 ep
    walk_at "zz"
    try refine z_ix (.inl ep2) a2 ?_
    walk_at "zz"
    refine distance_c (.inr ⟨Same.sqT s1 e2, Same.sqT s1 ev⟩) (o.at (by omega)).1 ((o.at (by omega)).2.mono (by decide)) (ob.mono (by decide)) fun H2 s2 => ?_
    have s2 := s1.trans s2
    walk_at "zz"
    refine z_itD (fun h => ?_) (fun h => ?_)
    · walk_at "zz"
      refine ⟨s2, _, by rw [bestZ_s, if_pos h, show ((i + 1 : Nat) : Int) = 1 + (i : Int) by omega]⟩
    · walk_at "zz"
      refine ⟨s2, _, by rw [bestZ_s, if_neg h]⟩
  · rintro σ H' ⟨s, w, rfl⟩
    walk_at "zz"
    have en : ((css.length : Int) - 1).toNat = css.length - 1 := by omega
    rw [en]
    exact q H' s
abbrev N_mean : List Str := ["vectors", "vector", "k"]
-- mean(vectors): slots 0:vectors 1:vector 2:k
def T_mean (K : PySem.W.Frag) : TS :=
    (tRet (tCB (uTuple K) (tCons (tLc (iRng1 (tCons (tCB (uLen K) (tCons (tOp (uIx K) (tVar 0) (tC (.int 0))) tNil)) tNil)) (gName 2) tYes (tOp uDiv (tCB (rSum K) (tCons (tLc (iSq K (tVar 0)) (gName 1) tYes (tOp (uIx K) (tVar 1) (tVar 2)) [1]) tNil)) (tCB (uLen K) (tCons (tVar 0) tNil))) [2]) tNil)))

def sp_mean (K : PySem.W.Frag) : Sp := fun vs H Q _ => ∃ (p : Addr) (sz : Nat) (own : List (List Int)), vs = [.ref p] ∧ Dp K H (.ref p) (.list (own.map tI)) ∧ VOk sz own ∧ sz ≤ 1000 ∧ 0 < own.length ∧ own.length ≤ 1000 ∧ ∀ (r : Addr) H', H r = none → Same H H' → H' r = some (.tup ((meanZ own).map V.int)) → Q (.ref r) H'
theorem mean_c {K : PySem.W.Frag} {p : Addr} {sz : Nat} {own : List (List Int)} {H : Hp} {Q : VK} {E : XK} (e : Dp K H (.ref p) (.list (own.map tI))) (o : VOk sz own) (hz : sz ≤ 1000) (h0 : 0 < own.length) (hn : own.length ≤ 1000) (q : ∀ (r : Addr) H', H r = none → Same H H' → H' r = some (.tup ((meanZ own).map V.int)) → Q (.ref r) H') : sp_mean K [.ref p] H Q E := ⟨p, sz, own, rfl, e, o, hz, h0, hn, q⟩
theorem w_mean {K : PySem.W.Frag} : Wd (T_mean K) N_mean 1 (sp_mean K) := fun vs H Q E h => by
  obtain ⟨p, sz, own, rfl, e, o, hz, h0, hn, q⟩ := h
  obtain ⟨p', zs, e0, ep, rr⟩ := dpL e
  cases e0
  have hl := dpsLen rr
  rw [List.length_map] at hl
  obtain ⟨u0, a0, d0⟩ := dpsAt [] rr (i := 0) (by omega) (by omega)
  obtain ⟨b0, rfl, e0⟩ := dpTI' d0
  have h1 := (o.at h0).1
  refine ⟨rfl, ?_⟩
  show T_mean K _ [some (.ref p), none, none] H
  unfold T_mean
  walk_at "zz"
  try refine z_ix (.inl ep) a0 ?_
  walk_at "zz"
  try refine z_len (.inr e0) ?_
  walk_at "zz"
  rw [List.length_map, show Int.toNat 0 = 0 from rfl, h1]
  refine z_lcr1 (by omega) ?_
  rw [Int.toNat_natCast]
  refine z_lcr (fun C i H' => Same H H' ∧ H' C = some (.lst (((List.range i).map fun k => (colZ own k).sum / (own.length : Int)).map V.int))) (fun C hC => ⟨Same.new hC (Same.refl H), upd_same⟩) ?_ ?_
  · rintro C i H' hC hi ⟨s, eC⟩
    walk_at "zz"
    refine ⟨rfl, ?_⟩
    have ep1 := Same.seq s ep
    walk_at "zz"
    refine z_lcDp (f := tI) (g := fun v => PyData.int (v.getD i 0)) [] (ps := []) (.inl (dpS (by rw [hid_nil]; exact s) e)) hn Occ.nil ?_ ?_
    · intro C2 j x H2 k hj oc h2 s2 dy q'
      obtain ⟨b, rfl, eb⟩ := dpTI' dy
      refine z_gName ⟨rfl, ?_⟩
      have eb2 := Same.sqT hid_le eb
      walk_at "zz"
      try refine z_ix (.inr eb2) (at_int (by omega) (by rw [(o.at hj).1]; omega)) ?_
      rw [show (0 + (i : Int)).toNat = i by omega]
      exact q' _ _ (Same.refl _) (.int _)
    intro C2 H2 h2 s2 oc2 d2
    rw [hid_nil] at d2
    obtain ⟨C2', ys, e3, ey, ry⟩ := dpL d2
    cases e3
    rw [show (own.map fun v => PyData.int (v.getD i 0)) = diI (colZ own i) by simp [diI, colZ, List.map_map, Function.comp_def]] at ry
    obtain rfl := dpsI ry
    have ep2 := Same.seq s2 ep1
    walk_at "zz"
    refine ⟨C2, _, rfl, ey, ?_⟩
    walk_at "zz"
    try refine z_len (.inl ep2) ?_
    walk_at "zz"
    rw [hl]
    try refine z_div (div1 (by omega)) ?_
    refine z_accum (Same.lk s2 eC) (by simp; omega) ?_
    refine ⟨Same.put hC (s.trans s2), ?_⟩
    rw [upd_same, List.range_succ, List.map_append, List.map_append]
    rfl
  · rintro C H' hC ⟨s, eC⟩
    walk_at "zz"
    refine z_tupleL (SqL.of eC) fun t ht => ?_
    refine q t _ (fresh_back s ht) (Same.new ht s) ?_
    rw [upd_same, meanZ, h1]
abbrev N_move : List Str := ["centres", "vectors", "places", "vector", "moved", "place", "centre", "own", "at"]
-- move(centres, vectors): slots 0:centres 1:vectors 2:places 3:vector 4:moved 5:place 6:centre 7:own 8:at
def T_move_b1 (K : PySem.W.Frag) : TS :=
    (tSeq (tAsg (tLc (RZ.iZipA K (tCons (tVar 1) (tCons (tVar 2) tNil))) (gTup K 2 (gCons (gName 3) (gCons (gName 8) gNil))) (tTest (tOp (uEq K) (tVar 8) (tVar 5))) (tVar 3) [3, 8]) (gName 7))
    (tDrop (tBM K "list" rAppend (tVar 4) (tCons (tIf (tTest (tOp uGt (tCB (uLen K) (tCons (tVar 7) tNil)) (tC (.int 0)))) (tCal (sp_mean K) (tCons (tVar 7) tNil)) (tVar 6)) tNil))))
def T_move (K : PySem.W.Frag) : TS :=
    (tSeq (tAsg (tLc (iSq K (tVar 1)) (gName 3) tYes (tCal (sp_nearest K) (tCons (tVar 0) (tCons (tVar 3) tNil))) [3]) (gName 2))
    (tSeq (tAsg (tLst tNil) (gName 4))
    (tSeq (tFor (iEnumA K (tCons (tVar 0) tNil)) (gTup K 2 (gCons (gName 5) (gCons (gName 6) gNil))) (T_move_b1 K))
    (tRet (tVar 4)))))

def sp_move (K : PySem.W.Frag) : Sp := fun vs H Q _ => ∃ (p v : Addr) (sz : Nat) (css vss : List (List Int)) (ps : List Addr), vs = [.ref p, .ref v] ∧ Occ H ps ∧ Dp K (hid H ps) (.ref p) (.list (css.map tI)) ∧ Dp K (hid H ps) (.ref v) (.list (vss.map tI)) ∧ VOk sz css ∧ VOk sz vss ∧ sz ≤ 1000 ∧ css.length ≤ 1000 ∧ vss.length ≤ 1000 ∧ ∀ (r : Addr) H', H r = none → Same H H' → Dp K (hid H' ps) (.ref r) (.list ((moveZ css vss).map tI)) → Q (.ref r) H'
theorem move_c {K : PySem.W.Frag} {p v : Addr} {sz : Nat} {css vss : List (List Int)} {ps : List Addr} {H : Hp} {Q : VK} {E : XK} (oc : Occ H ps) (e : Dp K (hid H ps) (.ref p) (.list (css.map tI))) (ev : Dp K (hid H ps) (.ref v) (.list (vss.map tI))) (o : VOk sz css) (ov : VOk sz vss) (hz : sz ≤ 1000) (hn : css.length ≤ 1000) (hm : vss.length ≤ 1000) (q : ∀ (r : Addr) H', H r = none → Same H H' → Dp K (hid H' ps) (.ref r) (.list ((moveZ css vss).map tI)) → Q (.ref r) H') : sp_move K [.ref p, .ref v] H Q E := ⟨p, v, sz, css, vss, ps, rfl, oc, e, ev, o, ov, hz, hn, hm, q⟩
theorem dpsOwn {K : PySem.W.Frag} {H : Hp} {f : List Int → PyData} (k : Int) : ∀ {l : List (List Int)} {xs : List V} (pl : List Int), DpAll K H xs (l.map f) → DpAll K H (ownG xs pl k) ((ownG l pl k).map f)
  | [], _, pl, h => by rw [dps0 h]; exact .nil
  | y :: l, _, [], h => by
    have e1 : ∀ {β : Type} (z : List β), ownG z [] k = [] := fun z => by unfold ownG; rw [List.zip_nil_right]; rfl
    rw [e1, e1]; exact .nil
  | y :: l, _, z :: pl, h => by
    obtain ⟨v, ws, rfl, a, b⟩ := dpsC h
    have ih := dpsOwn k pl b
    unfold ownG at *
    simp only [List.zip_cons_cons, List.filter_cons]
    split
    · exact .cons a ih
    · exact ih
theorem w_move {K : PySem.W.Frag} : Wd (T_move K) N_move 2 (sp_move K) := fun vs H Q E h => by
  obtain ⟨p, v, sz, css, vss, ps, rfl, oc0, e, ev, o, ov, hz, hn, hm, q⟩ := h
  obtain ⟨p', xs, e0, ep, rp⟩ := dpL e
  cases e0
  obtain ⟨v', ys, e0, eq, rv⟩ := dpL ev
  cases e0
  have hl := dpsLen rp
  have hlv := dpsLen rv
  rw [List.length_map] at hl hlv
  refine ⟨rfl, ?_⟩
  show T_move K _ [some (.ref p), some (.ref v), none, none, none, none, none, none, none] H
  unfold T_move
  walk_at "zz"
  refine z_lcDp (f := tI) (g := fun x => PyData.int (nearZ css x)) [] (ps := ps) (.inl ev) hm oc0 ?_ ?_
  · intro C i x H' k hi oc hC s dy q'
    obtain ⟨b, rfl, eb⟩ := dpTI' dy
    refine z_gName ⟨rfl, ?_⟩
    walk_at "zz"
    refine nearest_c (dpS (Same.trans hid_le s) e) (Same.sqT hid_le eb) (by rw [(ov.at hi).1]; exact o) (ov.at hi).2 hn fun H1 s1 => ?_
    exact q' _ _ s1 (.int _)
  intro C H1 hC s1 oc1 d1
  obtain ⟨C', zs, e3, ey, ry⟩ := dpL d1
  cases e3
  rw [show (vss.map fun x => PyData.int (nearZ css x)) = diI (plZ css vss) by simp [diI, plZ, List.map_map, Function.comp_def]] at ry
  obtain rfl := dpsI ry
  replace ey := Same.seq hid_le ey
  clear ry d1
  walk_at "zz"
  rename_i m hm1
  have sm := Same.new (o := .lst []) hm1 s1
  have hm0 := fresh_back s1 hm1
  obtain ⟨uC, euC⟩ := oc1 C (List.mem_cons_self ..)
  have nCm : C ≠ m := ne_of_none euC hm1
  have nm : m ∉ ps := oc0.no hm0
  refine z_enumAL (Same.seq (Same.trans hid_le sm) ep) (fun i σ H' => Same H H' ∧ SqL K H' C ((plZ css vss).map V.int) ∧ (∃ ms : List V, H' m = some (.lst ms) ∧ DpAll K (hid H' (m :: ps)) ms (((moveZ css vss).take i).map tI)) ∧ Same H1 H' ∧ ∃ (w5 w6 w7 : Option V), σ = [some (.ref p), some (.ref v), some (.ref C), none, some (.ref m), w5, w6, w7, none])
    ⟨sm, sqL_new hm1 ey, ⟨[], upd_same, .nil⟩, Same.new hm1 (Same.refl _), none, none, none, rfl⟩ (fun i σ' H' z => Same.seq (Same.trans hid_le z.1) ep) ?_ ?_
  · rintro i x t σ' H' hx ⟨s, eC', ⟨ms, em, rm⟩, sH1, w5, w6, w7, rfl⟩ ht
    have hi : i < xs.length := (List.getElem?_eq_some_iff.mp hx).1
    have hi2 : i < css.length := by omega
    obtain ⟨x', ex, dx⟩ := dpsGet rp PyData.none (i := i) (by rw [List.length_map]; exact hi2)
    rw [hx] at ex
    obtain rfl := Option.some.inj ex
    rw [getD_map [] hi2] at dx
    obtain ⟨xa, rfl, exa⟩ := dpTI' dx
    have st := Same.new (o := .tup [.int (i : Nat), .ref xa]) ht s
    have sH2 := Same.new (o := .tup [.int (i : Nat), .ref xa]) ht sH1
    have et : Same H' (upd H' t (.tup [.int (i : Nat), .ref xa])) := Same.new ht (Same.refl H')
    generalize upd H' t (.tup [.int (i : Nat), .ref xa]) = H2 at *
    have eC2 := Same.seq et eC'
    have em2 := et _ _ em
    have rm2 := dpsS (hid_same (ps := m :: ps) et) rm
    have oc2 : Occ H2 (m :: ps) := Occ.cons em2 (oc0.same st)
    have sh : Same (hid H ps) (hid H2 (m :: ps)) := hid_ofS hm0 st
    unfold T_move_b1
    walk_at "zz"
    refine z_lcz (.inl ⟨Same.seq (Same.trans sh hid_le) eq, eC2⟩) (fun C2 j H3 => Same H2 H3 ∧ H3 C2 = some (.lst (ownG (ys.take j) (plZ css vss) (i : Int)))) (fun C2 h2 => ⟨Same.new h2 (Same.refl H2), upd_same⟩) (fun C2 j H3 h2 z => z.1) ?_ ?_
    · rintro C2 j x y t2 H3 h2 hx hy ⟨s3, e3⟩ ht2
      have hj : j < ys.length := (List.getElem?_eq_some_iff.mp hx).1
      obtain ⟨hj2, rfl⟩ := map_int hy
      refine ⟨rfl, ?_⟩
      walk_at "zz"
      rw [ownG_take hj hj2]
      have ex : ys[j] = x := by rw [List.getElem?_eq_getElem hj] at hx; exact Option.some.inj hx
      rw [ex]
      refine z_itD (fun h => ?_) (fun h => ?_)
      · walk_at "zz"
        refine z_accum (lk_new ht2 e3) (by have := ownG_len (l := ys.take j) (pl := plZ css vss) (k := i); rw [List.length_take] at this; omega) ?_
        refine ⟨Same.put h2 (Same.new ht2 s3), ?_⟩
        rw [if_pos h, upd_same]
      · rw [if_neg h]
        exact ⟨Same.new ht2 s3, lk_new ht2 e3⟩
    · rintro C2 H3 h2 ⟨s3, e3⟩
      rw [List.length_map, List.take_of_length_le (by simp [plZ]; omega)] at e3
      have s4 := st.trans s3
      have eC3 := Same.seq s3 eC2
      have em3 := s3 _ _ em2
      have rm3 := dpsS (hid_same (ps := m :: ps) s3) rm2
      have sh3 : Same (hid H ps) (hid H3 (m :: ps)) := Same.trans sh (hid_same s3)
      have rown := dpsOwn (i : Int) (plZ css vss) (dpsS (Same.trans sh3 hid_le) rv)
      have down : Dp K H3 (.ref C2) (.list ((ownG vss (plZ css vss) (i : Int)).map tI)) := .lst (SqL.of e3) rown
      have lown := dpsLen rown
      rw [List.length_map] at lown
      have lo := ownG_len (l := vss) (pl := plZ css vss) (k := (i : Int))
      have lm := dpsLen rm
      rw [List.length_map] at lm
      walk_at "zz"
      rw [lown]
      refine z_itD (fun h => ?_) (fun h => ?_)
      · walk_at "zz"
        refine mean_c (sz := sz) down (fun c hc => ov c (ownG_mem hc)) hz (by omega) (by omega) fun r2 H4 n4 s5 e5 => ?_
        walk_at "zz"
        have em4 := s5 _ _ em3
        refine z_app em4 (by rw [lm, List.length_take]; omega) ?_
        have n4' : r2 ∉ m :: ps := (oc2.same s3).no n4
        refine ⟨Same.put hm0 (s4.trans s5), sqL_ne nCm (Same.seq s5 eC3), ⟨ms ++ [.ref r2], upd_same, ?_⟩, Same.put hm1 (sH2.trans (s3.trans s5)), _, _, _, rfl⟩
        rw [hid_put (by simp), moveZ_take hi2, if_pos (by omega), List.map_append]
        exact dpsApp (dpsS (hid_same s5) rm3) (dpTI (SqT.of (hid_lk n4' e5)))
      · walk_at "zz"
        refine z_app em3 (by rw [lm, List.length_take]; omega) ?_
        refine ⟨Same.put hm0 s4, sqL_ne nCm eC3, ⟨ms ++ [.ref xa], upd_same, ?_⟩, Same.put hm1 (sH2.trans s3), _, _, _, rfl⟩
        rw [hid_put (by simp), moveZ_take hi2, if_neg (by omega), List.map_append]
        exact dpsApp rm3 (dpS sh3 (dpTI exa))
  · rintro σ' H' ⟨s, _, ⟨ms, em, rm⟩, _, w5, w6, w7, rfl⟩
    walk_at "zz"
    rw [hl, List.take_of_length_le (by rw [moveZ_len]; omega)] at rm
    exact q m H' hm0 s (dpO em nm rm)
abbrev N_train : List Str := ["vectors", "number", "rounds", "many", "centres", "i", "_"]
-- train(vectors, number, rounds): slots 0:vectors 1:number 2:rounds 3:many 4:centres 5:i 6:_
def T_train_b1 (K : PySem.W.Frag) : TS :=
    (tAsg (tCal (sp_move K) (tCons (tVar 4) (tCons (tVar 0) tNil))) (gName 4))
def T_train (K : PySem.W.Frag) : TS :=
    (tSeq (tAsg (tCB uMin (tCons (tVar 1) (tCons (tCB (uLen K) (tCons (tVar 0) tNil)) tNil))) (gName 3))
    (tSeq (tAsg (tLc (iRng1 (tCons (tVar 3) tNil)) (gName 5) tYes (tCB (uTuple K) (tCons (tOp (uIx K) (tVar 0) (tOp uDiv (tOp uMul (tVar 5) (tCB (uLen K) (tCons (tVar 0) tNil))) (tVar 3))) tNil)) [5]) (gName 4))
    (tCut (tIfS (tTest (tOp uGt (tVar 3) (tC (.int 0)))) (tFor (iRng1 (tCons (tVar 2) tNil)) (gName 6) (T_train_b1 K)) tNext)
    (tRet (tVar 4)))))

def sp_train (K : PySem.W.Frag) : Sp := fun vs H Q _ => ∃ (v : Addr) (sz : Nat) (n t : Int) (vss : List (List Int)) (ps : List Addr), vs = [.ref v, .int n, .int t] ∧ Occ H ps ∧ Dp K (hid H ps) (.ref v) (.list (vss.map tI)) ∧ VOk sz vss ∧ sz ≤ 1000 ∧ vss.length ≤ 1000 ∧ (0 ≤ n ∧ n ≤ 1000) ∧ (0 ≤ t ∧ t ≤ 1000) ∧ ∀ (r : Addr) H', Same H H' → Dp K (hid H' ps) (.ref r) (.list ((trainZ vss (min n.toNat vss.length) t.toNat).map tI)) → Q (.ref r) H'
theorem train_c {K : PySem.W.Frag} {v : Addr} {sz : Nat} {n t : Int} {vss : List (List Int)} {H : Hp} {Q : VK} {E : XK} (ps : List Addr) (oc : Occ H ps) (ev : Dp K (hid H ps) (.ref v) (.list (vss.map tI))) (ov : VOk sz vss) (hz : sz ≤ 1000) (hm : vss.length ≤ 1000) (hn : 0 ≤ n ∧ n ≤ 1000) (ht : 0 ≤ t ∧ t ≤ 1000) (q : ∀ (r : Addr) H', Same H H' → Dp K (hid H' ps) (.ref r) (.list ((trainZ vss (min n.toNat vss.length) t.toNat).map tI)) → Q (.ref r) H') : sp_train K [.ref v, .int n, .int t] H Q E := ⟨v, sz, n, t, vss, ps, rfl, oc, ev, ov, hz, hm, hn, ht, q⟩
theorem w_train {K : PySem.W.Frag} : Wd (T_train K) N_train 3 (sp_train K) := fun vs H Q E h => by
  obtain ⟨v, sz, n, t, vss, ps, rfl, oc0, ev, ov, hz, hm, hn, ht, q⟩ := h
  obtain ⟨v', ys, e0, eq, rv⟩ := dpL ev
  cases e0
  have hlv := dpsLen rv
  rw [List.length_map] at hlv
  have eq0 := Same.seq hid_le eq
  refine ⟨rfl, ?_⟩
  show T_train K _ [some (.ref v), some (.int n), some (.int t), none, none, none, none] H
  unfold T_train
  walk_at "zz"
  try refine z_len (.inl eq0) ?_
  walk_at "zz"
  rw [hlv]
  generalize hM : (if (vss.length : Int) < n then (vss.length : Int) else n) = M
  have eM : M = ((min n.toNat vss.length : Nat) : Int) := by rw [← hM]; split <;> omega
  generalize min n.toNat vss.length = m at *
  subst eM
  have hmv : m ≤ vss.length ∧ m ≤ 1000 := by split at hM <;> omega
  refine z_lcr1 (by omega) ?_
  rw [Int.toNat_natCast]
  refine z_lcr (fun C i H' => Same H H' ∧ ∃ ms : List V, H' C = some (.lst ms) ∧ DpAll K (hid H' (C :: ps)) ms (((initZ vss m).take i).map tI)) (fun C hC => ⟨Same.new hC (Same.refl H), [], upd_same, .nil⟩) ?_ ?_
  · rintro C i H' hC hi ⟨s, ms, eC, rm⟩
    have hlt := init_lt hi (show 0 < vss.length by omega)
    have lm := dpsLen rm
    rw [List.length_map] at lm
    have eq1 := Same.seq s eq0
    walk_at "zz"
    refine ⟨rfl, ?_⟩
    walk_at "zz"
    try refine z_len (.inl eq1) ?_
    walk_at "zz"
    have ei : (0 + (i : Int)) * ((vss.length : Nat) : Int) / (m : Int) = ((i * vss.length / m : Nat) : Int) := by
      rw [Int.zero_add, ← Int.natCast_mul, ← Int.natCast_ediv]
    rw [hlv, ei]
    clear ei
    have it := initZ_take (vss := vss) hi
    generalize i * vss.length / m = g at *
    obtain ⟨u, au, du⟩ := dpsAt [] rv (i := (g : Int)) (by omega) (by omega)
    rw [Int.toNat_natCast] at du
    obtain ⟨b, rfl, eb⟩ := dpTI' du
    try refine z_ix (.inl eq1) au ?_
    walk_at "zz"
    refine z_tupleT (Same.sqT (Same.trans hid_le s) eb) ?_
    refine z_accum eC (by rw [lm, List.length_take]; omega) ?_
    refine ⟨Same.put hC s, ms ++ [.ref b], upd_same, ?_⟩
    rw [hid_put (by simp), it, List.map_append]
    exact dpsApp rm (dpS (hid_ofS hC s) du)
  rintro C H1 hC ⟨s1, ms, eC, rm⟩
  rw [List.take_of_length_le (by rw [initZ_len]; omega)] at rm
  have r1 : Dp K (hid H1 ps) (.ref C) (.list ((initZ vss m).map tI)) := dpO eC (oc0.no hC) rm
  walk_at "zz"
  refine z_cut (fun σ H' => ∃ (r : Addr) (w : Option V), Same H H' ∧ Dp K (hid H' ps) (.ref r) (.list ((trainZ vss m t.toNat).map tI)) ∧ σ = [some (.ref v), some (.int n), some (.int t), some (.int m), some (.ref r), none, w]) ?_ ?_
  · walk_at "zz"
    refine z_itD (fun h => ?_) (fun h => ?_)
    · walk_at "zz"
      refine z_rng1 (by omega) ?_ (by omega)
      refine z_rng (fun i σ H' => ∃ (r : Addr) (w : Option V), Same H H' ∧ Dp K (hid H' ps) (.ref r) (.list ((trainZ vss m i).map tI)) ∧ σ = [some (.ref v), some (.int n), some (.int t), some (.int m), some (.ref r), none, w]) ⟨C, none, s1, r1, rfl⟩ ?_ ?_
      · rintro i σ H' hi ⟨r, w, s, rr, rfl⟩
        unfold T_train_b1
        walk_at "zz"
        refine move_c (oc0.same s) rr (dpS (hid_same s) ev) (trainZ_ok ov hmv.1 i) ov hz (by rw [trainZ_len]; omega) hm fun r2 H2 n2 s2 rr2 => ?_
        walk_at "zz"
        exact ⟨r2, _, s.trans s2, rr2, rfl⟩
      · rintro σ H' ⟨r, w, s, rr, rfl⟩
        exact ⟨r, w, s, rr, rfl⟩
    · walk_at "zz"
      have : m = 0 := by omega
      subst this
      exact ⟨C, none, s1, by rw [trainZ_nil, ← trainZ_nil (vss := vss) 0]; exact r1, rfl⟩
  rintro σ H' ⟨r, w, s, rr, rfl⟩
  walk_at "zz"
  exact q r H' s rr

abbrev N_check_rule : List Str := ["positive", "other", "number"]
-- check_rule(positive, other): slots 0:positive 1:other 2:number
def T_check_rule_b1 (K : PySem.W.Frag) (c : CEnv) (W : WX) : TS :=
    (tIfS (tTest (tOp (uLt K) (tVar 2) (tC (.int 1)))) (sRaise c "InvalidRule" W) tNext)
def T_check_rule_b2 (K : PySem.W.Frag) (c : CEnv) (W : WX) : TS :=
    (tIfS (tTest (tOp (uLt K) (tVar 2) (tC (.int 0)))) (sRaise c "InvalidRule" W) tNext)
def T_check_rule (K : PySem.W.Frag) (c : CEnv) (W : WX) : TS :=
    (tSeq (tFor (iSq K (tVar 0)) (gName 2) (T_check_rule_b1 K c W))
    (tFor (iSq K (tVar 1)) (gName 2) (T_check_rule_b2 K c W)))

def sp_check_rule (K : PySem.W.Frag) (c : CEnv) : Sp := fun vs H Q E => ∃ (p q : Addr) (xs ys : List Int), vs = [.ref p, .ref q] ∧ SqL K H p (xs.map V.int) ∧ SqL K H q (ys.map V.int) ∧ ((∀ x ∈ xs, 1 ≤ x) → (∀ y ∈ ys, 0 ≤ y) → Q .non H) ∧ (¬ ((∀ x ∈ xs, 1 ≤ x) ∧ ∀ y ∈ ys, 0 ≤ y) → E (.ref (c.cls "InvalidRule")) none H)
theorem w_check_rule {K : PySem.W.Frag} {c : CEnv} : WdX (T_check_rule K c) N_check_rule 2 (sp_check_rule K c) := fun vs H Q E h => by
  obtain ⟨p, q, xs, ys, rfl, hp, hq, good, bad⟩ := h
  refine ⟨rfl, ?_⟩
  show T_check_rule K c _ _ [some (.ref p), some (.ref q), none] H
  unfold T_check_rule
  walk_at "zz"
  refine z_forL hp (fun i σ H' => H' = H ∧ (∀ x ∈ xs.take i, 1 ≤ x) ∧ ∃ w, σ = [some (.ref p), some (.ref q), w]) ⟨rfl, by simp, _, rfl⟩ (fun i σ' H' _ z => z.1 ▸ hp) ?_ ?_
  · rintro i x σ' H' hx ⟨rfl, okk, w, rfl⟩
    obtain ⟨hi, rfl⟩ := map_int hx
    have mem := getD_mem' 0 hi
    unfold T_check_rule_b1
    walk_at "zz"
    by_cases c1 : xs.getD i 0 < 1
    · rw [decide_eq_true c1]
      walk_at "zx"
      exact bad fun z => by have := z.1 _ mem; omega
    rw [decide_eq_false c1]
    walk_at "zx"
    refine ⟨rfl, ?_, _, rfl⟩
    rw [take_dS 0 hi]
    intro x hx
    rcases List.mem_append.mp hx with h | h
    · exact okk x h
    · rw [List.mem_singleton.mp h]; omega
  rintro σ' H' ⟨rfl, ok1, w, rfl⟩
  rw [List.length_map, List.take_length] at ok1
  walk_at "zz"
  refine z_forL hq (fun i σ H2 => H2 = H' ∧ (∀ x ∈ ys.take i, 0 ≤ x) ∧ ∃ w, σ = [some (.ref p), some (.ref q), w]) ⟨rfl, by simp, _, rfl⟩ (fun i σ' H' _ z => z.1 ▸ hq) ?_ ?_
  · rintro i x σ' H' hx ⟨rfl, okk, w, rfl⟩
    obtain ⟨hi, rfl⟩ := map_int hx
    have mem := getD_mem' 0 hi
    unfold T_check_rule_b2
    walk_at "zz"
    by_cases c1 : ys.getD i 0 < 0
    · rw [decide_eq_true c1]
      walk_at "zx"
      exact bad fun z => by have := z.2 _ mem; omega
    rw [decide_eq_false c1]
    walk_at "zx"
    refine ⟨rfl, ?_, _, rfl⟩
    rw [take_dS 0 hi]
    intro x hx
    rcases List.mem_append.mp hx with h | h
    · exact okk x h
    · rw [List.mem_singleton.mp h]; omega
  rintro σ' H' ⟨rfl, ok2, w, rfl⟩
  rw [List.length_map, List.take_length] at ok2
  exact good ok1 ok2

theorem len_r {i : Nat} (h : i ≤ 8) : ("r" : Str).length + (Str.ofString (toString (0 + (i : Int)))).length ≤ 100000 := by
  have : i = 0 ∨ i = 1 ∨ i = 2 ∨ i = 3 ∨ i = 4 ∨ i = 5 ∨ i = 6 ∨ i = 7 ∨ i = 8 := by omega
  rcases this with rfl | rfl | rfl | rfl | rfl | rfl | rfl | rfl | rfl <;> decide +kernel
abbrev rwD (x : Str × List Int) : PyData := .tuple [.str x.1, .list (diI x.2)]
abbrev N_law_rows_of : List Str := ["_law_state", "_law_size", "_law_spread", "_law_rows", "_law_k", "_law_vector", "_law_j"]
-- _law_rows_of(_law_state, _law_size, _law_spread): slots 0:_law_state 1:_law_size 2:_law_spread 3:_law_rows 4:_law_k 5:_law_vector 6:_law_j
def T_law_rows_of_b1 (K : PySem.W.Frag) : TS :=
    (tSeq (tAsg (tLc (iRng1 (tCons (tVar 1) tNil)) (gName 6) tYes (tCal (sp_law_next K) (tCons (tVar 0) (tCons (tVar 2) tNil))) [6]) (gName 5))
    (tDrop (tBM K "list" rAppend (tVar 3) (tCons (tTup (tCons (tOp (uAdd K) (tC (.str "r")) (tCB uStr (tCons (tVar 4) tNil))) (tCons (tVar 5) tNil))) tNil))))
def T_law_rows_of (K : PySem.W.Frag) : TS :=
    (tSeq (tAsg (tLst tNil) (gName 3))
    (tSeq (tFor (iRng1 (tCons (tCal (sp_law_next K) (tCons (tVar 0) (tCons (tC (.int 9)) tNil))) tNil)) (gName 4) (T_law_rows_of_b1 K))
    (tRet (tVar 3))))

def sp_law_rows_of (K : PySem.W.Frag) : Sp := fun vs H Q _ => ∃ (st L : Addr) (sz : Nat) (s : Int), vs = [.ref st, .int (sz : Int), .int s] ∧ Draw H st L ∧ sz ≤ 1000 ∧ 0 < s ∧ s ≤ 1000000 ∧
  ∀ (r : Addr) (rws : List (Str × List Int)) H', H r = none → Dp K (flt H') (.ref r) (.list (rws.map rwD)) → rws.length ≤ 8 → (∀ x ∈ rws, x.2.length = sz ∧ Bd 1000000 x.2) → Draw H' st L → ExD H H' → Q (.ref r) H'
theorem law_rows_of_c {K : PySem.W.Frag} {st L : Addr} {sz : Nat} {s : Int} {H : Hp} {Q : VK} {E : XK} (d : Draw H st L) (h1 : sz ≤ 1000) (h2 : 0 < s) (h3 : s ≤ 1000000)
    (q : ∀ (r : Addr) (rws : List (Str × List Int)) H', H r = none → Dp K (flt H') (.ref r) (.list (rws.map rwD)) → rws.length ≤ 8 → (∀ x ∈ rws, x.2.length = sz ∧ Bd 1000000 x.2) → Draw H' st L → ExD H H' → Q (.ref r) H') : sp_law_rows_of K [.ref st, .int (sz : Int), .int s] H Q E := ⟨st, L, sz, s, rfl, d, h1, h2, h3, q⟩
theorem w_law_rows_of {K : PySem.W.Frag} : Wd (T_law_rows_of K) N_law_rows_of 3 (sp_law_rows_of K) := fun vs H Q E h => by
  obtain ⟨st, L, sz, s, rfl, d, h1, h2, h3, q⟩ := h
  refine ⟨rfl, ?_⟩
  show T_law_rows_of K _ [some (.ref st), some (.int (sz : Int)), some (.int s), none, none, none, none] H
  unfold T_law_rows_of
  walk_at "zz"
  rename_i r hr
  have d1 := Draw.new (o := .lst []) hr d
  walk_at "nx"
  intro n H1 a1 b1 d2 x2
  have er1 : H1 r = some (.lst (([] : List Addr).map V.ref)) := x2.lk upd_same NotSt.refs
  have x1 : ExD H H1 := (ExD.new hr (ExD.refl H)).trans x2
  refine z_rng1 (by omega) ?_ (by omega)
  refine z_rng (fun i σ H' => ExD H H' ∧ Draw H' st L ∧ ∃ (v4 v5 v6 : Option V) (ps : List Addr) (rws : List (Str × List Int)), σ = [some (.ref st), some (.int (sz : Int)), some (.int s), some (.ref r), v4, v5, v6] ∧ H' r = some (.lst (ps.map V.ref)) ∧ DpAll K (hid (flt H') [r]) (ps.map V.ref) (rws.map rwD) ∧ rws.length = i ∧ (∀ x ∈ rws, x.2.length = sz ∧ Bd 1000000 x.2))
    ⟨x1, d2, _, _, _, [], [], rfl, er1, .nil, rfl, fun _ h => nomatch h⟩ ?_ ?_
  · rintro i σ H2 hi ⟨x2, d2, v4, v5, v6, ps, rws, rfl, er2, dr2, lr2, ok2⟩
    unfold T_law_rows_of_b1
    walk_at "zz"
    refine z_lcr1 (by omega) ?_
    refine z_lcr (fun C j H' => ExD H2 H' ∧ Draw H' st L ∧ ∃ acc : List Int, H' C = some (.lst (acc.map V.int)) ∧ acc.length = j ∧ Bd 1000000 acc) (fun C hC => ⟨ExD.new hC (ExD.refl _), Draw.new hC d2, [], upd_same, rfl, fun _ h => nomatch h⟩) ?_ ?_
    · rintro C j H9 hC hj ⟨x9, d9, acc, eC, la, ba⟩
      walk_at "zz"
      refine ⟨rfl, ?_⟩
      walk_at "zz"
      walk_at "nx"
      intro n2 H10 lo hi2 d10 x10
      refine z_accum (x10.lk eC NotSt.ints) (by rw [List.length_map]; omega) ?_
      refine ⟨ExD.new hC (x9.trans x10), Draw.put (Draw.ne hC d2) (Draw.neL hC d2) d10, acc ++ [n2], by rw [upd_same, List.map_append]; rfl, by simp [la], ba.app (by omega) (by omega)⟩
    rintro A H3 hA ⟨x3, d3, as, eA3, la, ba⟩
    have er3 := x3.lk er2 NotSt.refs
    have nAr : A ≠ r := fun z => by subst z; rw [hA] at er2; cases er2
    walk_at "zz"
    refine z_strI (by omega) ?_
    walk_at "zz"
    refine z_addS (len_r (by omega)) ?_
    walk_at "zz"
    rename_i t ht
    have er4 : upd H3 t (.tup [.str ("r" ++ Str.ofString (toString (0 + (i : Int)))), .ref A]) r = some (.lst (ps.map V.ref)) := lk_new ht er3
    have x4 : ExD H3 (upd H3 t (.tup [.str ("r" ++ Str.ofString (toString (0 + (i : Int)))), .ref A])) := ExD.new ht (ExD.refl _)
    have d4 := Draw.new (o := .tup [.str ("r" ++ Str.ofString (toString (0 + (i : Int)))), .ref A]) ht d3
    have eA4 := x4.lk eA3 NotSt.ints
    have et4 : upd H3 t (.tup [.str ("r" ++ Str.ofString (toString (0 + (i : Int)))), .ref A]) t = some (.tup [.str ("r" ++ Str.ofString (toString (0 + (i : Int)))), .ref A]) := upd_same
    have ntr : t ≠ r := fun z => by subst z; rw [ht] at er3; cases er3
    have lp := dpsLen dr2
    rw [List.length_map, List.length_map] at lp
    refine z_app er4 (by rw [List.length_map]; omega) ?_
    generalize ("r" ++ Str.ofString (toString (0 + (i : Int)))) = nm at *
    have hF : Same (flt H2) (flt (upd H3 t (.tup [.str nm, .ref A]))) := flt_exd (x3.trans x4)
    have nrst := Draw.ne hr d
    refine ⟨ExD.new hr (x2.trans (x3.trans x4)), Draw.put nrst (Draw.neL hr d) d4, _, _, _, ps ++ [t], rws ++ [(nm, as)], rfl, by rw [upd_same, ref_app], ?_, by simp [lr2], fun x hx => ?_⟩
    · rw [← ref_app, List.map_append]
      have h5 : Same (hid (flt (upd H3 t (.tup [.str nm, .ref A]))) [r]) (hid (flt (upd (upd H3 t (.tup [.str nm, .ref A])) r (.lst (ps.map V.ref ++ [.ref t])))) [r]) := fun a o e => by
        have na : a ≠ r := fun z => by subst z; rw [hid_in (by simp)] at e; cases e
        rw [hid_out (by simpa using na)] at e
        exact hid_lk (by simpa using na) (flt_lk (lk_ne na (flt_inv e).1) (flt_inv e).2)
      exact dpsApp (dpsS (Same.trans (hid_same hF) h5) dr2) (dpS h5 (.tup (SqT.of (hid_lk (by simpa using ntr) (flt_lk et4 NotSt.tup))) (.cons (.str nm) (.cons (dpLI (SqL.of (hid_lk (by simpa using nAr) (flt_lk eA4 NotSt.ints)))) .nil))))
    · rcases List.mem_append.mp hx with hx | hx
      · exact ok2 x hx
      · rw [List.mem_singleton.mp hx]; exact ⟨by rw [la]; simp, ba⟩
  · rintro σ H2 ⟨x2, d2, v4, v5, v6, ps, rws, rfl, er2, dr2, lr2, ok2⟩
    walk_at "zz"
    exact q r rws H2 hr (.lst (SqL.of (flt_lk er2 NotSt.refs)) (dpsS hid_le dr2)) (by omega) ok2 d2 x2
section
variable {K : PySem.W.Frag} {H : Hp} {v : V}
theorem rwD_at {x : Str × List Int} (h : Dp K H v (rwD x)) : ∃ a u, v = .ref a ∧ SqT K H a [.str x.1, .ref u] ∧ SqL K H u (x.2.map V.int) := by
  obtain ⟨a, xs, rfl, ea, r⟩ := dpT h
  obtain ⟨y1, w1, rfl, d1, r⟩ := dpsC r
  obtain ⟨y2, w2, rfl, d2, r⟩ := dpsC r
  obtain rfl := dps0 r
  obtain rfl := dpX d1
  obtain ⟨u, rfl, eu⟩ := dpLI' d2
  exact ⟨a, u, rfl, ea, eu⟩
end
abbrev ro1 (rws : List (Str × List Int)) : List (List Int) := rws.map (·.2)
abbrev dRw : Str × List Int := ("", [])
theorem ro1_at {rws : List (Str × List Int)} {i : Nat} (h : i < rws.length) : (ro1 rws).getD i [] = (rws.getD i dRw).2 := by
  rw [List.getD_eq_getElem?_getD, List.getD_eq_getElem?_getD, List.getElem?_map, List.getElem?_eq_getElem h]; rfl
abbrev VecAt (K : PySem.W.Frag) (c : CEnv) (H : Hp) (p : Addr) (v : List Int) : Prop := ∃ n fl ws, RecAt K c H p n v fl ws
/-- the places of the records, the records' vectors -/
theorem z_lcVec {K : PySem.W.Frag} {c : CEnv} {a : Addr} {rs : List Addr} {vs : List (List Int)} {σ : L2.St} {u : Nat} {H : Hp} {Q : VK} (e : H a = some (.lst (rs.map V.ref))) (r : All2 (VecAt K c H) rs vs) (hn : vs.length ≤ 1000) (hu : u < σ.length)
    (q : ∀ (l : Addr) H', H l = none → Same H H' → Dp K H' (.ref l) (.list (vs.map tI)) → Q (.ref l) H') : zLcS K (gName u) tYes (tFld K (tVar u) "vector") [u] σ (.ref a) H Q := by
  have hl := All2.len r
  refine z_lcl (SqL.of e) (fun C i H' => Same H H' ∧ ∃ ms : List V, H' C = some (.lst ms) ∧ DpAll K (hid H' [C]) ms ((vs.take i).map tI)) (fun C hC => ⟨Same.new hC (Same.refl H), [], upd_same, .nil⟩) (fun C i H' _ _ z => Same.seq z.1 (SqL.of e)) ?_ ?_
  · rintro C i x H' hC hx ⟨s, ms, eC, rm⟩
    obtain ⟨hi, rfl⟩ := map_ref hx
    have hi2 : i < vs.length := by omega
    obtain ⟨n, fl, ws, tv, tf, tw, ⟨ok, dx, ei⟩, et, _, _⟩ := All2.atD r 0 [] hi2
    have ei2 := s _ _ ei
    have lm := dpsLen rm
    rw [List.length_map, List.length_take] at lm
    refine z_gName ?_
    refine ⟨by show ((σ.set u none).set u _).set u none = σ.set u none; rw [List.set_set, List.set_set], ?_⟩
    refine z_yes ?_
    rw [if_pos rfl]
    refine z_fldt (z_var (show ((σ.set u none).set u _)[u]? = _ by rw [List.getElem?_set_self (by simpa using hu)]) ?_)
    refine z_fld ok ei2 rfl rfl ?_
    refine z_accum eC (by omega) ⟨Same.put hC s, ms ++ [.ref tv], upd_same, ?_⟩
    rw [hid_put (by simp), take_dS [] hi2, List.map_append]
    exact dpsApp rm (dpTI (Same.sqT (hidS1 hC s) et))
  · rintro C H' hC ⟨s, ms, eC, rm⟩
    rw [List.length_map, hl, List.take_length] at rm
    exact q C H' hC s (dpO0 eC rm)
theorem SqT.putL {K : PySem.W.Frag} {H : Hp} {p a : Addr} {ys xs : List V} {o : HO} (hp : H p = some (.lst ys)) (h : SqT K H a xs) : SqT K (upd H p o) a xs := by
  rcases h with (e | ⟨u, e⟩) | e
  · exact .inl (.inl (lk_df e hp (fun z => by cases z)))
  · exact .inl (.inr ⟨u, lk_df e hp (fun z => by cases z)⟩)
  · exact .inr e
theorem RecAt.putL {K : PySem.W.Frag} {c : CEnv} {H : Hp} {C p : Addr} {ys : List V} {n : Str} {xs : List Int} {fl ws : List (V × V)} {o : HO} (hp : H C = some (.lst ys)) (h : RecAt K c H p n xs fl ws) : RecAt K c (upd H C o) p n xs fl ws := by
  obtain ⟨tv, tf, tw, i, e, ⟨p1, e1, r1⟩, ⟨p2, e2, r2⟩⟩ := h
  exact ⟨tv, tf, tw, i.putL hp, SqT.putL hp e, ⟨p1, SqT.putL hp e1, All2.imp (fun _ _ h => SqT.putL hp h) r1⟩, ⟨p2, SqT.putL hp e2, All2.imp (fun _ _ h => SqT.putL hp h) r2⟩⟩
theorem good0 {i : Int} (h : 1 ≤ i) : SchGood i "small" "square" [] := ⟨h, by decide, by decide, by decide, by decide, fun _ h => nomatch h⟩

/-! ### slices of tuples -/
def cutZ (ns : List Int) (s e : Int) : List Int := (ns.drop (HT.sIx ns.length 0 (some s))).take (HT.sIx ns.length ns.length (some e) - HT.sIx ns.length 0 (some s))
def clen (n : Nat) (s e : Int) : Nat := min (HT.sIx n n (some e) - HT.sIx n 0 (some s)) (n - HT.sIx n 0 (some s))
theorem cutZ_len {ns : List Int} {s e : Int} : (cutZ ns s e).length = clen ns.length s e := by unfold cutZ clen; rw [List.length_take, List.length_drop]
theorem clen_le {n : Nat} {s e : Int} : clen n s e ≤ n := by unfold clen; omega
theorem cutZ_bd {b : Int} {ns : List Int} {s e : Int} (h : Bd b ns) : Bd b (cutZ ns s e) := fun x hx => h x (List.mem_of_mem_drop (List.mem_of_mem_take hx))
theorem z_slT {K : PySem.W.Frag} {H : Hp} {p : Addr} {xs : List Int} {s e : Int} {ps : List Addr} {Q : VK} (oc : Occ H ps) (h : SqT K (hid H ps) p (xs.map V.int)) (k : ∀ t H', Same H H' → SqT K (hid H' ps) t ((cutZ xs s e).map V.int) → Q (.ref t) H') : uSl K (.ref p) (some s) (some e) H Q := by
  refine .inr ⟨p, xs.map V.int, rfl, Same.sqT hid_le h, fun full => ?_, fun _ t ht => ?_⟩
  · obtain ⟨f1, f2⟩ := full
    rw [List.length_map] at f1 f2
    refine k p H (Same.refl _) ?_
    rw [show cutZ xs s e = xs by unfold cutZ; rw [f1, f2, List.drop_zero, Nat.sub_zero, List.take_length]]
    exact h
  · rw [cutV_ints]
    refine k t _ (Same.new ht (Same.refl _)) (SqT.of (hid_lk (oc.no ht) upd_same))
/-- zip of two lists of data -/
theorem z_lcZDp {K : PySem.W.Frag} {α β : Type} (dα : α) (dβ : β) {f : α → PyData} {f2 : β → PyData} {g : α × β → PyData} {l : List α} {m : List β} {ps : List Addr} {a b : Addr} {gg : TG} {te : TE} {vs : List Nat} {σ : L2.St} {H : Hp} {Q : VK} (h1 : Dp K (hid H ps) (.ref a) (.list (l.map f))) (h2 : Dp K (hid H ps) (.ref b) (.list (m.map f2))) (hlm : l.length = m.length) (hn : l.length ≤ 1000) (oc : Occ H ps)
    (turn : ∀ (C : Addr) (i : Nat) (x y : V) (p : Addr) (H' : Hp) (k : VK), i < l.length → Occ H' (C :: ps) → H C = none → Same H H' → H' p = some (.tup [x, y]) → Dp K (hid H' (C :: ps)) x (f (l.getD i dα)) → Dp K (hid H' (C :: ps)) y (f2 (m.getD i dβ)) → (∀ z H4, Same H' H4 → Dp K (hid H4 (C :: ps)) z (g (l.getD i dα, m.getD i dβ)) → k z H4) →
      gg (.ref p) (wipe σ vs) H' fun σ2 H2 => wipe σ2 vs = wipe σ vs ∧ te σ2 H2 k)
    (q : ∀ (r : Addr) H', H r = none → Same H H' → Occ H' (r :: ps) → Dp K (hid H' ps) (.ref r) (.list ((l.zip m).map g)) → Q (.ref r) H') :
    zLcZ K gg tYes te vs σ [.ref a, .ref b] H Q := by
  obtain ⟨a', xs, e0, ea, ra⟩ := dpL h1
  cases e0
  obtain ⟨b', ys, e0, eb, rb⟩ := dpL h2
  cases e0
  have hla := dpsLen ra
  have hlb := dpsLen rb
  rw [List.length_map] at hla hlb
  refine ⟨a, b, xs, ys, rfl, .inl ⟨Same.seq hid_le ea, Same.seq hid_le eb, fun D hD => ⟨fun i mm H' => mm = l.length - i ∧ i ≤ l.length ∧ Same H H' ∧ ∃ ms : List V, H' D = some (.lst ms) ∧ DpAll K (hid H' (D :: ps)) ms (((l.zip m).take i).map g), ⟨_, rfl, Nat.zero_le _, Same.new hD (Same.refl _), [], upd_same, .nil⟩, ?_⟩⟩⟩
  rintro i mm H' ⟨rfl, hi, s, ms, eD, rm⟩
  have q1 := Same.seq (Same.trans hid_le s) ea
  have q2 := Same.seq (Same.trans hid_le s) eb
  by_cases hlt : i < l.length
  · have l1 : i < xs.length := by omega
    have l2 : i < ys.length := by omega
    obtain ⟨x', ex, dx⟩ := dpsGet ra PyData.none (i := i) (by rw [List.length_map]; exact hlt)
    rw [getD_map dα hlt] at dx
    obtain ⟨y', ey, dy⟩ := dpsGet rb PyData.none (i := i) (by rw [List.length_map]; omega)
    rw [getD_map dβ (by omega)] at dy
    refine .inr ⟨⟨xs, ys, xs[i], ys[i], q1, q2, by simp [l1], by simp [l2]⟩, fun H2 => i + 1 ≤ l.length ∧ Same H H2 ∧ ∃ ms : List V, H2 D = some (.lst ms) ∧ DpAll K (hid H2 (D :: ps)) ms (((l.zip m).take (i + 1)).map g), fun H2 p' => ⟨l.length - (i + 1), by omega, rfl, p'⟩, ?_⟩
    rintro z H2 ⟨T, x1, y1, rfl, hT, rfl, f1, f2⟩
    have e1 := f1 xs q1
    have e2 := f2 ys q2
    rw [ex] at e1
    rw [ey] at e2
    obtain rfl := Option.some.inj e1
    obtain rfl := Option.some.inj e2
    have st : Same H' (upd H' T (.tup [x', y'])) := Same.new hT (Same.refl _)
    have s2 := Same.trans s st
    refine turn D i x' y' T _ _ hlt ((oc.same s2).cons (st _ _ eD)) hD s2 upd_same (dpS (hid_ofS hD s2) dx) (dpS (hid_ofS hD s2) dy) fun y H4 s4 dz => ?_
    have lm := dpsLen rm
    rw [List.length_map, List.length_take, List.length_zip] at lm
    refine ⟨ms, s4 _ _ (st _ _ eD), Nat.lt_of_le_of_lt (show ms.length ≤ 1000 by omega) (by decide), by omega, Same.put hD (Same.trans s2 s4), ms ++ [y], upd_same, ?_⟩
    have ez : (l.zip m).getD i (dα, dβ) = (l.getD i dα, m.getD i dβ) := by
      rw [List.getD_eq_getElem?_getD, List.getElem?_eq_getElem (by rw [List.length_zip]; omega), List.getElem_zip, List.getD_eq_getElem?_getD, List.getElem?_eq_getElem hlt, List.getD_eq_getElem?_getD, List.getElem?_eq_getElem (show i < m.length by omega)]; rfl
    rw [hid_put (by simp), take_dS (dα, dβ) (by rw [List.length_zip]; omega), List.map_append, ez]
    exact dpsApp (dpsS (hid_same (Same.trans st s4)) rm) dz
  · have e : i = l.length := by omega
    rw [e, List.take_of_length_le (by rw [List.length_zip]; omega)] at rm
    exact .inl ⟨⟨xs, ys, q1, q2, by omega⟩, q D H' hD s ((oc.same s).cons eD) (dpO eD (oc.no hD) rm)⟩
/-! ### codes -/
abbrev N_Codes_init : List Str := ["self", "parts", "centres", "rounds"]
-- Codes.__init__(self, parts, centres, rounds): slots 0:self 1:parts 2:centres 3:rounds
def T_Codes_init (K : PySem.W.Frag) (c : CEnv) (W : WX) : TS :=
    (tSeq (tDrop (tCallS (sp_check_rule K c) (WE W) (tCons (tLst (tCons (tVar 1) (tCons (tVar 2) tNil))) (tCons (tLst (tCons (tVar 3) tNil)) tNil))))
    (tSeq (sFld K (tVar 0) (tVar 1) "parts")
    (tSeq (sFld K (tVar 0) (tVar 2) "centres")
    (sFld K (tVar 0) (tVar 3) "rounds"))))

abbrev COD : List Str := ["parts", "centres", "rounds"]
abbrev codF (n m t : Int) : List (Str × V) := [("parts", .int n), ("centres", .int m), ("rounds", .int t)]
def sp_Codes_init (K : PySem.W.Frag) (c : CEnv) : Sp := fun vs H Q _ => ∃ (p dx : Addr) (n m t : Int), vs = [.ref p, .int n, .int m, .int t] ∧ ClsOk K c "Codes" COD ∧ H p = some (.ins (c.cls "Codes") dx []) ∧ 1 ≤ n ∧ 1 ≤ m ∧ 0 ≤ t ∧
  ∀ H', Same (hid H [p]) (hid H' [p]) → InsAt K c H' p "Codes" (codF n m t) → Q .non H'
theorem w_Codes_init {K : PySem.W.Frag} {c : CEnv} : WdX (T_Codes_init K c) N_Codes_init 4 (sp_Codes_init K c) := fun vs H Q E h => by
  obtain ⟨p, dx, n, m, t, rfl, ok, hp, hn, hm, ht, q⟩ := h
  refine ⟨rfl, ?_⟩
  show T_Codes_init K c _ _ [some (.ref p), some (.int n), some (.int m), some (.int t)] H
  unfold T_Codes_init
  walk_at "zz"
  rename_i a ha b hb
  refine ⟨a, b, [n, m], [t], rfl, SqL.of (lk_new hb upd_same), SqL.of upd_same, fun _ _ => ?_, fun z => absurd ⟨by simpa using ⟨hn, hm⟩, by simpa using ht⟩ z⟩
  have e2 := lk_new (o := .lst [.int t]) hb (lk_new (o := .lst [.int n, .int m]) ha hp)
  have s2 : Same (hid H [p]) (hid (upd (upd H a (.lst [.int n, .int m])) b (.lst [.int t])) [p]) := hid_same (Same.new hb (Same.new ha (Same.refl H)))
  generalize upd (upd H a (.lst [.int n, .int m])) b (.lst [.int t]) = H2 at *
  walk_at "zz"
  refine q _ (Same.trans s2 ?_) ⟨ok, dx, ?_⟩
  · rw [hid_put (by simp), hid_put (by simp), hid_put (by simp)]; exact Same.refl _
  · exact upd_same
abbrev Bok : Type := Int × Int × List (List Int)
abbrev dBk : Bok := (0, 0, [])
abbrev bkD (b : Bok) : PyData := .tuple [.int b.1, .int b.2.1, .list (b.2.2.map tI)]
def bookZ (sz n m t : Nat) (vs : List (List Int)) (j : Nat) : Bok := ((j : Int) * sz / n, ((j : Int) + 1) * sz / n, trainZ (vs.map fun v => cutZ v ((j : Int) * sz / n) (((j : Int) + 1) * sz / n)) (min m vs.length) t)
def booksZ (sz n m t : Nat) (vs : List (List Int)) : List Bok := (List.range n).map (bookZ sz n m t vs)
theorem booksZ_take {sz n m t j : Nat} {vs : List (List Int)} (h : j < n) : ((List.range (j + 1)).map (bookZ sz n m t vs)) = ((List.range j).map (bookZ sz n m t vs)) ++ [bookZ sz n m t vs j] := by rw [List.range_succ, List.map_append]; rfl
abbrev N_Codes_books : List Str := ["self", "schema", "vectors", "books", "j", "start", "stop", "pieces", "vector"]
-- Codes.books(self, schema, vectors): slots 0:self 1:schema 2:vectors 3:books 4:j 5:start 6:stop 7:pieces 8:vector
def T_Codes_books_b1 (K : PySem.W.Frag) : TS :=
    (tSeq (tAsg (tOp uDiv (tOp uMul (tVar 4) (tFld K (tVar 1) "size")) (tFld K (tVar 0) "parts")) (gName 5))
    (tSeq (tAsg (tOp uDiv (tOp uMul (tOp (uAdd K) (tVar 4) (tC (.int 1))) (tFld K (tVar 1) "size")) (tFld K (tVar 0) "parts")) (gName 6))
    (tSeq (tAsg (tLc (iSq K (tVar 2)) (gName 8) tYes (tSl (uSl K) (tVar 8) (tPart (tVar 5)) (tPart (tVar 6))) [8]) (gName 7))
    (tDrop (tBM K "list" rAppend (tVar 3) (tCons (tTup (tCons (tVar 5) (tCons (tVar 6) (tCons (tCal (sp_train K) (tCons (tVar 7) (tCons (tFld K (tVar 0) "centres") (tCons (tFld K (tVar 0) "rounds") tNil)))) tNil)))) tNil))))))
def T_Codes_books (K : PySem.W.Frag) : TS :=
    (tSeq (tAsg (tLst tNil) (gName 3))
    (tSeq (tFor (iRng1 (tCons (tFld K (tVar 0) "parts") tNil)) (gName 4) (T_Codes_books_b1 K))
    (tRet (tVar 3))))

def sp_Codes_books (K : PySem.W.Frag) (c : CEnv) : Sp := fun as H Q _ => ∃ (p sc ve : Addr) (sz n m t : Nat) (w u : Str) (tf : Addr) (vs : List (List Int)), as = [.ref p, .ref sc, .ref ve] ∧ InsAt K c H p "Codes" (codF n m t) ∧ InsAt K c H sc "Schema" (schF (sz : Int) w u tf) ∧ Dp K H (.ref ve) (.list (vs.map tI)) ∧ (∀ v ∈ vs, v.length = sz ∧ Bd 1000000 v) ∧ sz ≤ 1000 ∧ 1 ≤ n ∧ n ≤ 1000 ∧ m ≤ 1000 ∧ t ≤ 1000 ∧ vs.length ≤ 1000 ∧
  ∀ (r : Addr) H', Same H H' → Dp K H' (.ref r) (.list ((booksZ sz n m t vs).map bkD)) → Q (.ref r) H'
theorem w_Codes_books {K : PySem.W.Frag} {c : CEnv} : Wd (T_Codes_books K) N_Codes_books 3 (sp_Codes_books K c) := fun as H Q E h => by
  obtain ⟨p, sc, ve, sz, n, m, t, w, u, tf, vs, rfl, ⟨ok1, dx1, e1⟩, ⟨ok2, dx2, e2⟩, dv, okv, hsz, hn1, hn2, hm, ht, lv, q⟩ := h
  replace e1 : H p = some (.ins (c.cls "Codes") dx1 (codF n m t)) := e1
  replace e2 : H sc = some (.ins (c.cls "Schema") dx2 (schF (sz : Int) w u tf)) := e2
  replace ok1 : ClsOk K c "Codes" COD := ok1
  replace ok2 : ClsOk K c "Schema" SCH := ok2
  have fld1 : ∀ {H' : Hp} {f : Str} {v : V} {Q : VK}, Same H H' → (codF n m t).lookup f = some v → COD.contains f = true → Q v H' → zFld K f (.ref p) H' Q := fun s l nn k => z_fld ok1 (s _ _ e1) l nn k
  have fld2 : ∀ {H' : Hp} {f : Str} {v : V} {Q : VK}, Same H H' → (schF (sz : Int) w u tf).lookup f = some v → SCH.contains f = true → Q v H' → zFld K f (.ref sc) H' Q := fun s l nn k => z_fld ok2 (s _ _ e2) l nn k
  clear ok1 ok2
  refine ⟨rfl, ?_⟩
  show T_Codes_books K _ [some (.ref p), some (.ref sc), some (.ref ve), none, none, none, none, none, none] H
  unfold T_Codes_books
  walk_at "zz"
  rename_i bk hbk
  refine fld1 (Same.new hbk (Same.refl _)) rfl rfl ?_
  walk_at "zz"
  refine z_rng1 (by omega) ?_ (by omega)
  rw [Int.toNat_natCast]
  refine z_rng (fun j σ H' => Same H H' ∧ ∃ (v4 v5 v6 v7 v8 : Option V) (ms : List V), σ = [some (.ref p), some (.ref sc), some (.ref ve), some (.ref bk), v4, v5, v6, v7, v8] ∧ H' bk = some (.lst ms) ∧ DpAll K (hid H' [bk]) ms (((List.range j).map (bookZ sz n m t vs)).map bkD))
    ⟨Same.new hbk (Same.refl _), _, _, _, _, _, [], rfl, upd_same, .nil⟩ ?_ ?_
  · rintro j σ H1 hj ⟨s1, v4, v5, v6, v7, v8, ms, rfl, ebk, dbk⟩
    unfold T_Codes_books_b1
    walk_at "zz"
    refine fld2 s1 rfl rfl ?_
    walk_at "zz"
    try refine z_mul (mul2 (by omega)) ?_
    walk_at "zz"
    refine fld1 s1 rfl rfl ?_
    walk_at "zz"
    try refine z_div (div1 (by omega)) ?_
    walk_at "zz"
    refine fld2 s1 rfl rfl ?_
    walk_at "zz"
    try refine z_mul (mul2 (by omega)) ?_
    walk_at "zz"
    refine fld1 s1 rfl rfl ?_
    walk_at "zz"
    try refine z_div (div1 (by omega)) ?_
    walk_at "zz"
    rw [show (0 + (j : Int)) = (j : Int) by omega]
    have oc1 : Occ H1 [bk] := Occ.cons ebk Occ.nil
    refine z_lcDp (f := tI) (g := fun v => tI (cutZ v ((j : Int) * sz / n) (((j : Int) + 1) * sz / n))) [] (ps := [bk]) (.inl (dpS (hidS1 hbk s1) dv)) lv oc1 ?_ ?_
    · intro C i x H' k hi oc hC s dy q'
      obtain ⟨b, rfl, eb⟩ := dpTI' dy
      refine z_gName ⟨rfl, ?_⟩
      walk_at "zz"
      refine z_slT oc eb fun t2 H2 s2 e2 => ?_
      exact q' _ _ s2 (dpTI e2)
    intro pc H2 hpc s2 oc2 dpc
    have dpc2 : Dp K (hid H2 [bk]) (.ref pc) (.list ((vs.map fun v => cutZ v ((j : Int) * sz / n) (((j : Int) + 1) * sz / n)).map tI)) := by rw [List.map_map]; exact dpc
    have s12 := Same.trans s1 s2
    have ebk2 := s2 _ _ ebk
    walk_at "zz"
    refine fld1 s12 rfl rfl ?_
    walk_at "zz"
    refine fld1 s12 rfl rfl ?_
    walk_at "zz"
    refine train_c (sz := clen sz ((j : Int) * sz / n) (((j : Int) + 1) * sz / n)) [bk] (Occ.cons ebk2 Occ.nil) dpc2 (fun c hc => ?_) (Nat.le_trans clen_le hsz) (by rw [List.length_map]; exact lv) (by omega) (by omega) fun tr H3 s3 dtr => ?_
    · obtain ⟨v, hv, rfl⟩ := List.mem_map.mp hc
      rw [cutZ_len, (okv v hv).1]
      exact ⟨rfl, cutZ_bd (okv v hv).2⟩
    rw [List.length_map, Int.toNat_natCast, Int.toNat_natCast] at dtr
    have ebk3 := s3 _ _ ebk2
    walk_at "zz"
    rename_i tt htt
    have dtt := dp_newT htt (Occ.cons ebk3 Occ.nil) (.cons (.int ((j : Int) * sz / n)) (.cons (.int (((j : Int) + 1) * sz / n)) (.cons dtr .nil)))
    have lm := dpsLen dbk
    rw [List.length_map, List.length_map, List.length_range] at lm
    have s4 : Same H3 (upd H3 tt (.tup [.int ((j : Int) * sz / n), .int (((j : Int) + 1) * sz / n), .ref tr])) := Same.new htt (Same.refl _)
    have ebk4 := s4 _ _ ebk3
    refine z_app ebk4 (by omega) ?_
    have s14 := Same.trans s2 (Same.trans s3 s4)
    refine ⟨Same.put hbk (Same.trans s1 s14), _, _, _, _, _, ms ++ [.ref tt], rfl, upd_same, ?_⟩
    rw [hid_put (by simp), booksZ_take hj, List.map_append]
    exact dpsApp (dpsS (hid_same s14) dbk) dtt
  · rintro σ H1 ⟨s1, v4, v5, v6, v7, v8, ms, rfl, ebk, dbk⟩
    walk_at "zz"
    exact q bk H1 s1 (dpO0 ebk dbk)

theorem room65 {k : Nat} {A : PySem.Around} (r : Room k A) : A.units + 65 < PySem.cLine := by have := r.un; omega
/-! ### rows of codes in plain -/
abbrev rD (r : List Int) : PyData := .list (diI r)
def rowZ (bk : List Bok) (v : List Int) : List Int := bk.map fun b => (nearZ b.2.2 (cutZ v b.1 b.2.1) : Int)
def skC (bk : List Bok) (r : List Int) : Skt := (none, (bk.zip r).map fun z => (z.1.1, z.1.2.2.getD z.2.toNat []), [])
def addR (R : List (List Int)) (r : List Int) : List (List Int) := if r ∈ R then R else R ++ [r]
def idxR (R : List (List Int)) (r : List Int) : Nat := R.findIdx (· == r)
abbrev CdS : Type := List (List Int) × List Skt × List Int
def stepC (bk : List Bok) (X : CdS) (v : List Int) : CdS := (addR X.1 (rowZ bk v), (if rowZ bk v ∈ X.1 then X.2.1 else X.2.1 ++ [skC bk (rowZ bk v)]), X.2.2 ++ [(idxR (addR X.1 (rowZ bk v)) (rowZ bk v) : Int)])
def cdZ (bk : List Bok) (vs : List (List Int)) : CdS := vs.foldl (stepC bk) ([], [], [])
theorem cdZ_take {bk : List Bok} {vs : List (List Int)} {i : Nat} (h : i < vs.length) : cdZ bk (vs.take (i + 1)) = stepC bk (cdZ bk (vs.take i)) (vs.getD i []) := by
  unfold cdZ; rw [take_dS [] h, List.foldl_append]; rfl
theorem addR_mem {R : List (List Int)} {r : List Int} : r ∈ addR R r := by
  unfold addR; by_cases h : r ∈ R
  · rw [if_pos h]; exact h
  · rw [if_neg h]; simp
theorem cdZ_len {bk : List Bok} : ∀ (vs : List (List Int)) (X : CdS), ((vs.foldl (stepC bk) X).1.length ≤ X.1.length + vs.length ∧ (vs.foldl (stepC bk) X).2.1.length ≤ X.2.1.length + vs.length) ∧ (vs.foldl (stepC bk) X).2.2.length = X.2.2.length + vs.length
  | [], X => ⟨⟨Nat.le_refl _, Nat.le_refl _⟩, rfl⟩
  | v :: vs, X => by
    obtain ⟨⟨h1, h2⟩, h3⟩ := cdZ_len (bk := bk) vs (stepC bk X v)
    rw [List.foldl_cons, List.length_cons]
    have a : (stepC bk X v).1.length ≤ X.1.length + 1 := by
      unfold stepC addR; simp only; split <;> simp
    have b : (stepC bk X v).2.1.length ≤ X.2.1.length + 1 := by
      unfold stepC; simp only; split <;> simp
    have e : (stepC bk X v).2.2.length = X.2.2.length + 1 := by unfold stepC; simp
    omega
theorem sk_len {bk : List Bok} : ∀ (vs : List (List Int)) (X : CdS), (∀ s ∈ X.2.1, s.2.1.length ≤ bk.length ∧ s.2.2 = []) → ∀ s ∈ (vs.foldl (stepC bk) X).2.1, s.2.1.length ≤ bk.length ∧ s.2.2 = []
  | [], _, h => h
  | v :: vs, X, h => sk_len vs (stepC bk X v) fun s hs => by
    unfold stepC at hs
    simp only at hs
    split at hs
    · exact h s hs
    · rcases List.mem_append.mp hs with hs | hs
      · exact h s hs
      · rw [List.mem_singleton.mp hs]
        refine ⟨?_, rfl⟩
        unfold skC; simp only [List.length_map, List.length_zip]; omega
theorem any_rD {r : List Int} : ∀ {R : List (List Int)}, (R.map rD).any (fun z => PyData.eqv z (rD r)) = decide (r ∈ R)
  | [] => by simp
  | x :: R => by
    rw [List.map_cons, List.any_cons, any_rD, show PyData.eqv (rD x) (rD r) = decide (x = r) from eqv_ints x r]
    by_cases h : x = r
    · subst h; simp
    · have h2 : ¬ r = x := fun z => h z.symm
      simp [h, h2]
theorem rD_sh {r : List Int} : SeqAt.shaped (rD r) = true := (lay1.list (n := 0) lay1.ints).sh (by decide)
theorem rDs_sh {R : List (List Int)} : SeqAt.shaped (.list (R.map rD)) = true := (lay1.list (n := 1) fun d h => by
  obtain ⟨x, _, rfl⟩ := List.mem_map.mp h; exact lay1.list lay1.ints).sh (by decide)
theorem z_notInR {K : PySem.W.Frag} {H : Hp} {x y : Addr} {r : List Int} {R : List (List Int)} {Q : VK} (hx : Dp K H (.ref x) (rD r)) (hy : Dp K H (.ref y) (.list (R.map rD))) (k : Q (.bl (!decide (r ∈ R))) H) : rNotInD K (.ref x) (.ref y) H Q :=
  ⟨rD r, R.map rD, hx, hy, rD_sh, rDs_sh, by rw [any_rD]; exact k⟩
theorem z_indexR {K : PySem.W.Frag} {H : Hp} {x y : Addr} {r : List Int} {R : List (List Int)} {Q : VK} (hx : Dp K H (.ref x) (rD r)) (hy : Dp K H (.ref y) (.list (R.map rD))) (h : r ∈ R) (k : Q (.int (idxR R r : Nat)) H) : rIndexD K (.ref y) [.ref x] H Q := by
  have hi : R.findIdx (· == r) < R.length := List.findIdx_lt_length_of_exists ⟨r, h, by simp⟩
  have e := List.findIdx_getElem (p := (· == r)) (xs := R) (w := hi)
  have e2 : R[R.findIdx (· == r)] = r := by simpa using e
  refine ⟨y, .ref x, rD r, R.map rD, idxR R r, rD r, rfl, rfl, hy, hx, rDs_sh, rD_sh, ?_, ?_, ?_, k⟩
  · unfold idxR; rw [List.getElem?_map, List.getElem?_eq_getElem hi, e2]; rfl
  · rw [show PyData.eqv (rD r) (rD r) = decide (r = r) from eqv_ints r r]; exact decide_eq_true rfl
  · intro m z' hm hz
    unfold idxR at hm
    have hm2 : m < R.length := by omega
    rw [List.getElem?_map, List.getElem?_eq_getElem hm2] at hz
    obtain rfl := Option.some.inj hz
    show PyData.eqv (rD R[m]) (rD r) = false
    rw [show PyData.eqv (rD R[m]) (rD r) = decide (R[m] = r) from eqv_ints R[m] r]
    have := List.not_of_lt_findIdx (p := (· == r)) (xs := R) (i := m) hm
    simpa using this
def BkOk (sz : Nat) (bk : List Bok) : Prop := ∀ b ∈ bk, VOk (clen sz b.1 b.2.1) b.2.2 ∧ 0 < b.2.2.length ∧ b.2.2.length ≤ 1000
theorem near_lt {css : List (List Int)} {x : List Int} (h : 0 < css.length) : nearZ css x < css.length := by
  have := bestZ_le css x (css.length - 1)
  unfold nearZ; omega
theorem booksZ_ok {sz n m t : Nat} {vs : List (List Int)} (okv : ∀ v ∈ vs, v.length = sz ∧ Bd 1000000 v) (h0 : 0 < vs.length) (h1 : vs.length ≤ 1000) (hm : 0 < m) : BkOk sz (booksZ sz n m t vs) := fun b hb => by
  unfold booksZ at hb
  obtain ⟨j, _, rfl⟩ := List.mem_map.mp hb
  unfold bookZ
  simp only
  refine ⟨trainZ_ok (fun c hc => ?_) (by rw [List.length_map]; omega) _, by rw [trainZ_len]; omega, by rw [trainZ_len]; omega⟩
  obtain ⟨v, hv, rfl⟩ := List.mem_map.mp hc
  rw [cutZ_len, (okv v hv).1]
  exact ⟨rfl, cutZ_bd (okv v hv).2⟩
theorem booksZ_len {sz n m t : Nat} {vs : List (List Int)} : (booksZ sz n m t vs).length = n := by unfold booksZ; simp
theorem bkD_at {K : PySem.W.Frag} {H : Hp} {v : V} {b : Bok} (h : Dp K H v (bkD b)) : ∃ a u, v = .ref a ∧ SqT K H a [.int b.1, .int b.2.1, .ref u] ∧ Dp K H (.ref u) (.list (b.2.2.map tI)) := by
  obtain ⟨a, xs, rfl, ea, r⟩ := dpT h
  obtain ⟨y1, w1, rfl, d1, r⟩ := dpsC r
  obtain ⟨y2, w2, rfl, d2, r⟩ := dpsC r
  obtain ⟨y3, w3, rfl, d3, r⟩ := dpsC r
  obtain rfl := dps0 r
  obtain rfl := dpI d1
  obtain rfl := dpI d2
  obtain ⟨u, ys, rfl, _, _⟩ := dpL d3
  exact ⟨a, u, rfl, ea, d3⟩
theorem z_gTup3n {K : PySem.W.Frag} {H : Hp} {σ : L2.St} {P : L2.St → Hp → Prop} {t s : Addr} {a b d y : V} {u1 u2 u3 v : Nat} (h : SqT K H t [.ref s, y]) (h2 : SqT K H s [a, b, d]) (k : P ((((σ.set u1 (some a)).set u2 (some b)).set u3 (some d)).set v (some y)) H) :
    gTup K 2 (gCons (gTup K 3 (gCons (gName u1) (gCons (gName u2) (gCons (gName u3) gNil)))) (gCons (gName v) gNil)) (.ref t) σ H P := ⟨t, [.ref s, y], rfl, h, rfl, .ref s, [y], rfl, z_gTup3 h2 ⟨y, [], rfl, rfl, k⟩⟩
abbrev N_Codes_layout : List Str := ["self", "schema", "records", "vectors", "record", "books", "rows", "sketches", "leaves", "vector", "row", "start", "stop", "centres", "chosen", "code"]
-- Codes.layout(self, schema, records): slots 0:self 1:schema 2:records 3:vectors 4:record 5:books 6:rows 7:sketches 8:leaves 9:vector 10:row 11:start 12:stop 13:centres 14:chosen 15:code
def T_Codes_layout_b1 (K : PySem.W.Frag) (c : CEnv) : TS :=
    (tSeq (tAsg (tLc (iSq K (tVar 5)) (gTup K 3 (gCons (gName 11) (gCons (gName 12) (gCons (gName 13) gNil)))) tYes (tCal (sp_nearest K) (tCons (tVar 13) (tCons (tSl (uSl K) (tVar 9) (tPart (tVar 11)) (tPart (tVar 12))) tNil))) [11, 12, 13]) (gName 10))
    (tCut (tIfS (tTest (tOp (rNotInD K) (tVar 10) (tVar 6))) (tSeq (tDrop (tBM K "list" rAppend (tVar 6) (tCons (tVar 10) tNil)))
    (tSeq (tAsg (tLc (RZ.iZipA K (tCons (tVar 5) (tCons (tVar 10) tNil))) (gTup K 2 (gCons (gTup K 3 (gCons (gName 11) (gCons (gName 12) (gCons (gName 13) gNil)))) (gCons (gName 15) gNil))) tYes (tTup (tCons (tVar 11) (tCons (tOp (uIx K) (tVar 13) (tVar 15)) tNil))) [11, 12, 13, 15]) (gName 14))
    (tDrop (tBM K "list" rAppend (tVar 7) (tCons (tMkK K c "Sketch" ["parent", "centres", "cells"] 1 1 [.e] [(true, 0), (false, 0)] (sp_Sketch_init K c) W0 (tCons (tC .non) tNil) (tCons (tVar 14) tNil)) tNil))))) tNext)
    (tDrop (tBM K "list" rAppend (tVar 8) (tCons (tBM K "list" (rIndexD K) (tVar 6) (tCons (tVar 10) tNil)) tNil)))))
def T_Codes_layout (K : PySem.W.Frag) (c : CEnv) : TS :=
    (tSeq (tAsg (tLc (iSq K (tVar 2)) (gName 4) tYes (tFld K (tVar 4) "vector") [4]) (gName 3))
    (tSeq (tAsg (tMt c "Codes" "books" (sp_Codes_books K c) (tVar 0) (tCons (tVar 1) (tCons (tVar 3) tNil))) (gName 5))
    (tSeq (tAsg (tLst tNil) (gName 6))
    (tSeq (tAsg (tLst tNil) (gName 7))
    (tSeq (tAsg (tLst tNil) (gName 8))
    (tSeq (tFor (iSq K (tVar 3)) (gName 9) (T_Codes_layout_b1 K c))
    (tRet (tMk K c "Layout" ["sketches", "leaves"] (sp_Layout_init K c) (tCons (tVar 7) (tCons (tVar 8) tNil))))))))))

def sp_Codes_layout (K : PySem.W.Frag) (c : CEnv) : Sp := fun as H Q _ => ∃ (p sc rc : Addr) (sz n m t : Nat) (w u : Str) (tf : Addr) (rs : List Addr) (vs : List (List Int)), as = [.ref p, .ref sc, .ref rc] ∧ InsAt K c H p "Codes" (codF n m t) ∧ InsAt K c H sc "Schema" (schF (sz : Int) w u tf) ∧ H rc = some (.lst (rs.map V.ref)) ∧ All2 (VecAt K c H) rs vs ∧ (∀ v ∈ vs, v.length = sz ∧ Bd 1000000 v) ∧ sz ≤ 1000 ∧ 1 ≤ n ∧ n ≤ 1000 ∧ 1 ≤ m ∧ m ≤ 1000 ∧ t ≤ 1000 ∧ vs.length ≤ 1000 ∧
  ∀ (l : Addr) H', Same H H' → LayAt K c H' l (cdZ (booksZ sz n m t vs) vs).2.1 (cdZ (booksZ sz n m t vs) vs).2.2 → Q (.ref l) H'
theorem w_Codes_layout {K : PySem.W.Frag} {c : CEnv} : Wd (T_Codes_layout K c) N_Codes_layout 3 (sp_Codes_layout K c) := fun as H Q E h => by
  obtain ⟨p, sc, rc, sz, n, m, t, w, u, tf, rs, vs, rfl, i1, i2, erc, rr, okv, hsz, hn1, hn2, hm1, hm2, ht, lv, q⟩ := h
  refine ⟨rfl, ?_⟩
  show T_Codes_layout K c _ [some (.ref p), some (.ref sc), some (.ref rc), none, none, none, none, none, none, none, none, none, none, none, none, none] H
  unfold T_Codes_layout
  walk_at "zz"
  refine z_lcVec erc rr (by omega) (by walk_at "few") fun ve H1 hve s1 dve => ?_
  walk_at "zz"
  obtain ⟨okc, dxc, ec⟩ := i1.same s1
  refine ⟨_, _, _, rfl, ec, rfl, ?_⟩
  walk_at "zz"
  refine ⟨p, sc, ve, sz, n, m, t, w, u, tf, vs, rfl, ⟨okc, dxc, ec⟩, i2.same s1, dve, okv, hsz, hn1, hn2, hm2, ht, lv, fun bk H2 s2 dbk => ?_⟩
  clear okc i1 i2 ec
  replace dve := dpS s2 dve
  have s02 := Same.trans s1 s2
  clear s1 s2
  walk_at "zz"
  rename_i rw hrw sk hsk lf hlf
  have e1 : upd H2 rw (.lst []) rw = some (.lst []) := upd_same
  have s3 : Same H2 (hid (upd H2 rw (.lst [])) [rw]) := hidS1 hrw (Same.new hrw (Same.refl _))
  generalize upd H2 rw (.lst []) = H3 at *
  have nsk : sk ≠ rw := fun z => by subst z; rw [hsk] at e1; cases e1
  have e2 := lk_new (o := .lst []) hsk e1
  have e2s : upd H3 sk (.lst []) sk = some (.lst []) := upd_same
  have s4 : Same (hid H3 [rw]) (hid (upd H3 sk (.lst [])) [sk, rw]) := hid_ofS hsk (Same.new hsk (Same.refl _))
  generalize upd H3 sk (.lst []) = H4 at *
  have nlf1 : lf ≠ rw := fun z => by subst z; rw [hlf] at e2; cases e2
  have nlf2 : lf ≠ sk := fun z => by subst z; rw [hlf] at e2s; cases e2s
  have e3 := lk_new (o := .lst []) hlf e2
  have e3s := lk_new (o := .lst []) hlf e2s
  have e3l : upd H4 lf (.lst []) lf = some (.lst []) := upd_same
  have s5 : Same (hid H4 [sk, rw]) (hid (upd H4 lf (.lst [])) [lf, sk, rw]) := hid_ofS hlf (Same.new hlf (Same.refl _))
  generalize upd H4 lf (.lst []) = H5 at *
  have s25 := Same.trans s3 (Same.trans s4 s5)
  replace dve := dpS s25 dve
  replace dbk := dpS s25 dbk
  replace s02 := Same.trans s02 s25
  clear s3 s4 s5 s25 e1 e2 e2s hsk hlf hrw
  obtain ⟨ve', xs, e0, eve, rve⟩ := dpL dve
  cases e0
  have lxs := dpsLen rve
  rw [List.length_map] at lxs
  generalize hbk : booksZ sz n m t vs = bok at *
  have lbk : bok.length = n := by rw [← hbk]; exact booksZ_len
  refine z_forL (Same.seq hid_le eve) (fun i σ H' => Same (hid H5 [lf, sk, rw]) (hid H' [lf, sk, rw]) ∧ (∃ (v4 v9 v10 v11 v12 v13 v14 v15 : Option V), σ = [some (.ref p), some (.ref sc), some (.ref rc), some (.ref ve), v4, some (.ref bk), some (.ref rw), some (.ref sk), some (.ref lf), v9, v10, v11, v12, v13, v14, v15]) ∧
    (∃ ms : List V, H' rw = some (.lst ms) ∧ DpAll K (hid H' [lf, sk, rw]) ms ((cdZ bok (vs.take i)).1.map rD)) ∧ (∃ ps : List Addr, H' sk = some (.lst (ps.map V.ref)) ∧ All2 (SkAt K c (hid H' [lf, sk, rw])) ps (cdZ bok (vs.take i)).2.1) ∧ H' lf = some (.lst ((cdZ bok (vs.take i)).2.2.map V.int)))
    ⟨Same.refl _, ⟨_, _, _, _, _, _, _, _, rfl⟩, ⟨[], e3, .nil⟩, ⟨[], e3s, .nil⟩, e3l⟩ (fun i σ' H' _ z => Same.seq (Same.trans z.1 hid_le) eve) ?_ ?_
  · rintro i σ x H6 hx ⟨s6, ⟨v4, v9, v10, v11, v12, v13, v14, v15, rfl⟩, ⟨ms, erw, drw⟩, ⟨ps, esk, rsk⟩, elf⟩
    have hi : i < xs.length := (List.getElem?_eq_some_iff.mp hx).1
    have hi2 : i < vs.length := by omega
    obtain ⟨x', ex, dx⟩ := dpsGet rve PyData.none (i := i) (by rw [List.length_map]; exact hi2)
    rw [hx] at ex
    obtain rfl := Option.some.inj ex
    rw [getD_map [] hi2] at dx
    obtain ⟨va, rfl, eva⟩ := dpTI' dx
    have bko : BkOk sz bok := by rw [← hbk]; exact booksZ_ok okv (by omega) lv (by omega)
    have stp := cdZ_take (bk := bok) hi2
    obtain ⟨⟨l1, l2⟩, l3⟩ := cdZ_len (bk := bok) (vs.take i) ([], [], [])
    change (cdZ bok (vs.take i)).1.length ≤ _ at l1
    change (cdZ bok (vs.take i)).2.1.length ≤ _ at l2
    change (cdZ bok (vs.take i)).2.2.length = _ at l3
    rw [List.length_take] at l1 l2 l3
    generalize cdZ bok (vs.take i) = X at *
    obtain ⟨R, S', L'⟩ := X
    have hv := okv _ (getD_mem' [] hi2)
    generalize vs.getD i [] = v at *
    simp only [List.length_nil] at *
    have lms := dpsLen drw
    rw [List.length_map] at lms
    have lps := All2.len rsk
    have oc6 : Occ H6 [lf, sk, rw] := Occ.cons elf (Occ.cons esk (Occ.cons erw Occ.nil))
    unfold T_Codes_layout_b1
    walk_at "zz"
    refine z_lcDp (f := bkD) (g := fun b => PyData.int (nearZ b.2.2 (cutZ v b.1 b.2.1))) dBk (ps := [lf, sk, rw]) (.inl (dpS s6 dbk)) (by omega) oc6 ?_ ?_
    · intro C j y H' k hj oc hC s dy q'
      obtain ⟨ta, u, rfl, et, du⟩ := bkD_at dy
      have bj := bko _ (getD_mem' dBk hj)
      refine z_gTup3 (Same.sqT hid_le et) ⟨rfl, ?_⟩
      walk_at "zz"
      refine z_slT oc (Same.sqT (Same.trans s6 (hid_ofS hC s)) eva) fun t2 H2 s2 e2 => ?_
      walk_at "zz"
      refine nearest_c (dpS (Same.trans hid_le s2) du) (Same.sqT hid_le e2) (by rw [cutZ_len, hv.1]; exact bj.1) (cutZ_bd hv.2) bj.2.2 fun H3 s3 => ?_
      exact q' _ _ (s2.trans s3) (.int _)
    intro rr H7 hrr s7 oc7 d7
    have d7 : Dp K (hid H7 [lf, sk, rw]) (.ref rr) (rD (rowZ bok v)) := by
      rw [show rD (rowZ bok v) = .list (bok.map fun b => PyData.int (nearZ b.2.2 (cutZ v b.1 b.2.1))) by simp [rD, diI, rowZ, List.map_map, Function.comp_def]]
      exact d7
    have s67 : Same (hid H6 [lf, sk, rw]) (hid H7 [lf, sk, rw]) := hid_same s7
    have erw7 := s7 _ _ erw
    have esk7 := s7 _ _ esk
    have elf7 := s7 _ _ elf
    have drw7 := dpsS s67 drw
    have lrow : (rowZ bok v).length = bok.length := by unfold rowZ; simp
    have row_at : ∀ j, j < bok.length → (rowZ bok v).getD j 0 = (nearZ (bok.getD j dBk).2.2 (cutZ v (bok.getD j dBk).1 (bok.getD j dBk).2.1) : Int) := fun j hj => by
      unfold rowZ
      rw [List.getD_eq_getElem?_getD, List.getElem?_map, List.getD_eq_getElem?_getD, List.getElem?_eq_getElem hj]; rfl
    unfold stepC at stp
    simp only at stp
    generalize rowZ bok v = r at *
    walk_at "zz"
    refine z_cut (fun σ' H8 => ∃ (v11 v12 v13 v14 v15 : Option V) (ms2 : List V) (ps2 : List Addr), σ' = [some (.ref p), some (.ref sc), some (.ref rc), some (.ref ve), v4, some (.ref bk), some (.ref rw), some (.ref sk), some (.ref lf), some (.ref va), some (.ref rr), v11, v12, v13, v14, v15] ∧ Same (hid H5 [lf, sk, rw]) (hid H8 [lf, sk, rw]) ∧ H8 rw = some (.lst ms2) ∧ DpAll K (hid H8 [lf, sk, rw]) ms2 ((addR R r).map rD) ∧
      H8 sk = some (.lst (ps2.map V.ref)) ∧ All2 (SkAt K c (hid H8 [lf, sk, rw])) ps2 (if r ∈ R then S' else S' ++ [skC bok r]) ∧ H8 lf = some (.lst (L'.map V.int)) ∧ Dp K (hid H8 [lf, sk, rw]) (.ref rr) (rD r)) ?_ ?_
    · walk_at "zz"
      refine z_notInR (r := r) (R := R) (dpS hid_le d7) (.lst (SqL.of erw7) (dpsS hid_le drw7)) ?_
      walk_at "zz"
      by_cases c1 : r ∈ R
      · rw [decide_eq_true c1]
        walk_at "zx"
        refine ⟨_, _, _, _, _, ms, ps, rfl, Same.trans s6 s67, erw7, ?_, esk7, ?_, elf7, d7⟩
        · unfold addR; rw [if_pos c1]; exact drw7
        · rw [if_pos c1]; exact All2.imp (fun _ _ h => h.same s67) rsk
      · rw [decide_eq_false c1]
        walk_at "zx"
        refine z_app erw7 (by omega) ?_
        have e8r : upd H7 rw (.lst (ms ++ [.ref rr])) rw = some (.lst (ms ++ [.ref rr])) := upd_same
        have e8s : upd H7 rw (.lst (ms ++ [.ref rr])) sk = some (.lst (ps.map V.ref)) := lk_ne nsk esk7
        have e8l : upd H7 rw (.lst (ms ++ [.ref rr])) lf = some (.lst (L'.map V.int)) := lk_ne nlf1 elf7
        have s78 : Same (hid H7 [lf, sk, rw]) (hid (upd H7 rw (.lst (ms ++ [.ref rr]))) [lf, sk, rw]) := by rw [hid_put (by simp)]; exact Same.refl _
        generalize upd H7 rw (.lst (ms ++ [.ref rr])) = H8 at *
        have d8 := dpS s78 d7
        have s58 := Same.trans s6 (Same.trans s67 s78)
        have drw8 : DpAll K (hid H8 [lf, sk, rw]) (ms ++ [.ref rr]) ((addR R r).map rD) := by
          unfold addR; rw [if_neg c1, List.map_append]; exact dpsApp (dpsS s78 drw7) d8
        have oc8 : Occ H8 [lf, sk, rw] := Occ.cons e8l (Occ.cons e8s (Occ.cons e8r Occ.nil))
        walk_at "zz"
        refine z_lcZDp (f := bkD) (f2 := PyData.int) (g := fun z => ctT (z.1.1, z.1.2.2.getD z.2.toNat [])) dBk 0 (l := bok) (m := r) (ps := [lf, sk, rw]) (dpS s58 dbk) d8 (by omega) (by omega) oc8 ?_ ?_
        · intro C j y z tp H' k hj oc hC s etp dy dz q'
          obtain ⟨ta, u, rfl, et, du⟩ := bkD_at dy
          obtain rfl := dpI dz
          have bj := bko _ (getD_mem' dBk hj)
          have nl := near_lt (x := cutZ v (bok.getD j dBk).1 (bok.getD j dBk).2.1) bj.2.1
          rw [row_at j hj] at q' etp
          generalize nearZ (bok.getD j dBk).2.2 (cutZ v (bok.getD j dBk).1 (bok.getD j dBk).2.1) = g at *
          obtain ⟨u', us, e0, eu, ru⟩ := dpL du
          cases e0
          obtain ⟨w1, aw, dw⟩ := dpsAt [] ru (i := (g : Int)) (by omega) (by omega)
          rw [Int.toNat_natCast] at dw
          refine z_gTup3n (SqT.of etp) (Same.sqT hid_le et) ⟨rfl, ?_⟩
          have eu2 := Same.seq hid_le eu
          walk_at "zz"
          try refine z_ix (.inl eu2) aw ?_
          walk_at "zz"
          rename_i t2 ht2
          refine q' _ _ (Same.new ht2 (Same.refl _)) (dp_newT ht2 oc (.cons (.int _) (.cons ?_ .nil)))
          rw [Int.toNat_natCast]
          exact dw
        intro ch H9 hch s9 oc9 dch
        have s89 : Same (hid H8 [lf, sk, rw]) (hid H9 [lf, sk, rw]) := hid_same s9
        have e9r := s9 _ _ e8r
        have e9s := s9 _ _ e8s
        have e9l := s9 _ _ e8l
        walk_at "zz"
        refine ⟨rfl, rfl, ?_⟩
        rintro okS ds hds g dg hg hdg ne
        obtain ⟨T1, ds1, rfl, hT1, h2⟩ := cstE hds
        obtain rfl := cst0 h2
        have oc9' : Occ H9 [lf, sk, rw] := Occ.cons e9l (Occ.cons e9s (Occ.cons e9r Occ.nil))
        have ng := oc9'.no hg
        have sg : Same H9 (upd (upd H9 dg (.own g)) g (.ins (c.cls "Sketch") dg [])) := Same.put hg (Same.new hdg (Same.refl _))
        have hs9 : ∀ {qs : List Addr}, Same (hid H9 qs) (hid (upd (upd H9 dg (.own g)) g (.ins (c.cls "Sketch") dg [])) (g :: qs)) := fun {qs} => hid_ofS hg sg
        have zl : (skC bok r).2.1.map ctT = (bok.zip r).map fun z => ctT (z.1.1, z.1.2.2.getD z.2.toNat []) := by unfold skC; simp [List.map_map, Function.comp_def]
        have zn : (skC bok r).2.1.length ≤ 1000 := by unfold skC; simp only [List.length_map, List.length_zip]; omega
        refine Sketch_init_c (s := skC bok r) [lf, sk, rw] okS upd_same (oc9'.same sg) ng rfl (.inl ?_) (.inr (.tup (hT1 _) .nil)) zn (by unfold skC; simp) fun H10 s10 at10 => ?_
        · rw [zl]; exact dpS hs9 dch
        have n1 : rw ≠ g := fun z => ng (by rw [z]; simp)
        have n2 : sk ≠ g := fun z => ng (by rw [z]; simp)
        have n3 : lf ≠ g := fun z => ng (by rw [z]; simp)
        have e10r := hid_le _ _ (s10 _ _ (hid_lk (by simpa using n1) (sg _ _ e9r)))
        have e10s := hid_le _ _ (s10 _ _ (hid_lk (by simpa using n2) (sg _ _ e9s)))
        have e10l := hid_le _ _ (s10 _ _ (hid_lk (by simpa using n3) (sg _ _ e9l)))
        have s910 : Same (hid H9 [lf, sk, rw]) (hid H10 [lf, sk, rw]) := fun a o e => by
          have x := hs9 _ _ e
          have na : a ≠ g := fun z => by subst z; rw [hid_in (by simp)] at x; cases x
          have nb : a ∉ [lf, sk, rw] := fun z => by rw [hid_in z] at e; cases e
          exact hid_lk nb (hid_le _ _ (s10 _ _ (hid_lk (by simpa using na) (hid_le _ _ x))))
        refine ⟨rfl, ?_⟩
        walk_at "zz"
        refine z_app e10s (by rw [List.length_map]; omega) ?_
        have s1011 : Same (hid H10 [lf, sk, rw]) (hid (upd H10 sk (.lst (ps.map V.ref ++ [.ref g]))) [lf, sk, rw]) := by rw [hid_put (by simp)]; exact Same.refl _
        have s811 := Same.trans s89 (Same.trans s910 s1011)
        refine ⟨_, _, _, _, _, ms ++ [.ref rr], ps ++ [g], rfl, Same.trans s58 s811, lk_ne (fun z => nsk z.symm) e10r, dpsS s811 drw8, by rw [upd_same, ref_app], ?_, lk_ne nlf2 e10l, dpS s811 d8⟩
        rw [if_neg c1]
        exact (All2.imp (fun _ _ h => h.same (Same.trans s67 (Same.trans s78 s811))) rsk).app (at10.same s1011)
    · rintro σ' H8 ⟨v11, v12, v13, v14, v15, ms2, ps2, rfl, s8, e8r, d8r, e8s, r8s, e8l, d8⟩
      walk_at "zz"
      refine z_indexR (r := r) (R := addR R r) (dpS hid_le d8) (.lst (SqL.of e8r) (dpsS hid_le d8r)) addR_mem ?_
      walk_at "zz"
      refine z_app e8l (by rw [List.length_map]; omega) ?_
      rw [stp]
      have s9 : Same (hid H8 [lf, sk, rw]) (hid (upd H8 lf (.lst (L'.map V.int ++ [.int (idxR (addR R r) r : Nat)]))) [lf, sk, rw]) := hid1
      refine ⟨Same.trans s8 s9, ⟨_, _, _, _, _, _, _, _, rfl⟩, ⟨ms2, lk_ne (fun z => nlf1 z.symm) e8r, dpsS s9 d8r⟩, ⟨ps2, lk_ne (fun z => nlf2 z.symm) e8s, All2.imp (fun _ _ h => h.same s9) r8s⟩, by rw [upd_same]; simp⟩
  · rintro σ H6 ⟨s6, ⟨v4, v9, v10, v11, v12, v13, v14, v15, rfl⟩, ⟨ms, erw, drw⟩, ⟨ps, esk, rsk⟩, elf⟩
    rw [lxs, List.take_length] at rsk elf
    walk_at "zz"
    rintro okL g2 dg2 hg2 hdg2 ne2
    have sg2 : Same H6 (upd (upd H6 dg2 (.own g2)) g2 (.ins (c.cls "Layout") dg2 [])) := Same.put hg2 (Same.new hdg2 (Same.refl _))
    have sh := hidS1 hg2 sg2
    have sh2 := Same.trans (hid_le (H := H6) (ps := [lf, sk, rw])) sh
    refine Layout_init_c okL upd_same (Same.seq sh (SqL.of esk)) (All2.imp (fun _ _ h => h.same sh2) rsk) (Same.seq sh (SqL.of elf)) fun H9 s9 lay => ?_
    refine ⟨rfl, ?_⟩
    exact q g2 H9 (Same.trans s02 (Same.trans s6 (Same.trans sh2 (Same.trans s9 hid_le)))) lay

abbrev N_law_nearest : List Str := ["_law_centres", "_law_vector", "_law_best", "_law_k"]
-- _law_nearest(_law_centres, _law_vector): slots 0:_law_centres 1:_law_vector 2:_law_best 3:_law_k
def T_law_nearest_b1 (K : PySem.W.Frag) : TS :=
    (tIfS (tTest (tOp (uLt K) (tCal (sp_law_distance K) (tCons (tOp (uIx K) (tVar 0) (tVar 3)) (tCons (tVar 1) tNil))) (tCal (sp_law_distance K) (tCons (tOp (uIx K) (tVar 0) (tVar 2)) (tCons (tVar 1) tNil))))) (tAsg (tVar 3) (gName 2)) tNext)
def T_law_nearest (K : PySem.W.Frag) : TS :=
    (tSeq (tAsg (tC (.int 0)) (gName 2))
    (tSeq (tFor (iRng1 (tCons (tCB (uLen K) (tCons (tVar 0) tNil)) tNil)) (gName 3) (T_law_nearest_b1 K))
    (tRet (tVar 2))))

def sp_law_nearest (K : PySem.W.Frag) : Sp := fun vs H Q _ => ∃ (p v : Addr) (css : List (List Int)) (xs : List Int), vs = [.ref p, .ref v] ∧ Dp K H (.ref p) (.list (css.map tI)) ∧ SqL K H v (xs.map V.int) ∧ VOk xs.length css ∧ Bd 1000000 xs ∧ xs.length ≤ 1000 ∧ css.length ≤ 1000 ∧ Q (.int (nearZ css xs)) H
theorem law_nearest_c {K : PySem.W.Frag} {p v : Addr} {css : List (List Int)} {xs : List Int} {H : Hp} {Q : VK} {E : XK} (e : Dp K H (.ref p) (.list (css.map tI))) (ev : SqL K H v (xs.map V.int)) (o : VOk xs.length css) (ob : Bd 1000000 xs) (hx : xs.length ≤ 1000) (hn : css.length ≤ 1000) (q : Q (.int (nearZ css xs)) H) : sp_law_nearest K [.ref p, .ref v] H Q E := ⟨p, v, css, xs, rfl, e, ev, o, ob, hx, hn, q⟩
theorem w_law_nearest {K : PySem.W.Frag} : Wd (T_law_nearest K) N_law_nearest 2 (sp_law_nearest K) := fun vs H Q E h => by
  obtain ⟨p, v, css, xs, rfl, e, ev, o, ob, hx, hn, q⟩ := h
  obtain ⟨p', zs, e0, ep, rr⟩ := dpL e
  cases e0
  have hl := dpsLen rr
  rw [List.length_map] at hl
  refine ⟨rfl, ?_⟩
  show T_law_nearest K _ [some (.ref p), some (.ref v), none, none] H
  unfold T_law_nearest
  walk_at "zz"
  try refine z_len (.inl ep) ?_
  walk_at "zz"
  rw [hl]
  refine z_rng1 (by omega) ?_ (by omega)
  refine z_rng (fun i σ H' => H' = H ∧ ∃ w, σ = [some (.ref p), some (.ref v), some (.int (bestZ css xs (i - 1) : Nat)), w]) ⟨rfl, none, rfl⟩ ?_ ?_
  · rintro i σ H' hi ⟨rfl, w, rfl⟩
    have hb := bestZ_le css xs (i - 1)
    have hi2 : i < css.length := by omega
    obtain ⟨u1, a1, d1⟩ := dpsAt [] rr (i := 0 + (i : Int)) (by omega) (by omega)
    rw [show (0 + (i : Int)).toNat = i by omega] at d1
    obtain ⟨b1, rfl, e1⟩ := dpTI' d1
    obtain ⟨u2, a2, d2⟩ := dpsAt [] rr (i := ((bestZ css xs (i - 1) : Nat) : Int)) (by omega) (by omega)
    rw [Int.toNat_natCast] at d2
    obtain ⟨b2, rfl, e2⟩ := dpTI' d2
    unfold T_law_nearest_b1
    walk_at "zz"
    try refine z_ix (.inl ep) a1 ?_
    walk_at "zz"
    refine law_distance_cA (.inr e1) (.inl ev) (o.at hi2).1 (by have := (o.at hi2).1; omega) ((o.at hi2).2.mono (by decide)) (ob.mono (by decide)) ?_
    walk_at "zz"
    try refine z_ix (.inl ep) a2 ?_
    walk_at "zz"
    refine law_distance_cA (.inr e2) (.inl ev) (o.at (by omega)).1 (by have := (o.at (show bestZ css xs (i - 1) < css.length by omega)).1; omega) ((o.at (by omega)).2.mono (by decide)) (ob.mono (by decide)) ?_
    walk_at "zz"
    have key : bestZ css xs (i + 1 - 1) = if distZ (css.getD i []) xs < distZ (css.getD (bestZ css xs (i - 1)) []) xs then i else bestZ css xs (i - 1) := by
      cases i with
      | zero => show 0 = _; rw [if_neg (show ¬ distZ (css.getD 0 []) xs < distZ (css.getD (bestZ css xs (0 - 1)) []) xs from Int.lt_irrefl _)]; rfl
      | succ i => exact bestZ_s
    refine z_itD (fun h => ?_) (fun h => ?_)
    · walk_at "zz"
      refine ⟨rfl, _, by rw [key, if_pos h, Int.zero_add]⟩
    · walk_at "zz"
      refine ⟨rfl, _, by rw [key, if_neg h]⟩
  · rintro σ H' ⟨rfl, w, rfl⟩
    walk_at "zz"
    rw [Int.toNat_natCast]
    exact q
theorem skD_lay {s : Skt} : lay1 4 (skD s) := lay1.tuple fun d h => by
  rcases List.mem_cons.mp h with rfl | h
  · exact lay1.h
  rcases List.mem_cons.mp h with rfl | h
  · refine lay1.list fun d h => ?_
    obtain ⟨x, _, rfl⟩ := List.mem_map.mp h
    refine lay1.tuple fun d h => ?_
    rcases List.mem_cons.mp h with rfl | h
    · exact lay1.int
    · rw [List.mem_singleton.mp h]; exact lay1.list (n := 0) lay1.ints
  · rw [List.mem_singleton.mp h]
    refine lay1.list fun d h => ?_
    obtain ⟨x, _, rfl⟩ := List.mem_map.mp h
    refine lay1.tuple fun d h => ?_
    rcases List.mem_cons.mp h with rfl | h
    · exact lay1.list (n := 0) lay1.ints
    · rw [List.mem_singleton.mp h]; exact lay1.list (n := 0) lay1.ints
def fd3 (i : Int) : Int := ([2, 3, 50] : List Int).getD i.toNat 0
theorem fd3_b {i : Int} (h0 : 0 ≤ i) (h1 : i < 3) : 0 < fd3 i ∧ fd3 i ≤ 1000000 := by
  have : i = 0 ∨ i = 1 ∨ i = 2 := by omega
  rcases this with rfl | rfl | rfl <;> decide
abbrev cuD (sz n : Nat) (j : Nat) : PyData := .tuple [.int ((j : Int) * sz / n), .int (((j : Int) + 1) * sz / n)]
theorem cuD_at {K : PySem.W.Frag} {H : Hp} {v : V} {sz n j : Nat} (h : Dp K H v (cuD sz n j)) : ∃ a, v = .ref a ∧ SqT K H a [.int ((j : Int) * sz / n), .int (((j : Int) + 1) * sz / n)] := by
  obtain ⟨a, xs, rfl, ea, r⟩ := dpT h
  obtain ⟨y1, w1, rfl, d1, r⟩ := dpsC r
  obtain ⟨y2, w2, rfl, d2, r⟩ := dpsC r
  obtain rfl := dps0 r
  obtain rfl := dpI d1
  obtain rfl := dpI d2
  exact ⟨a, rfl, ea⟩
abbrev N_law : List Str := ["_law_script", "_law_state", "_law_size", "_law_rows", "_law_parts", "_law_many", "_law_rounds", "_law_records", "_law_name", "_law_vector", "_law_actual", "_law_cuts", "_law_j", "_law_books", "_law_low", "_law_high", "_law_seen", "_law_due", "_law_leaves", "_law_codes"]
-- law(_law_script): slots 0:_law_script 1:_law_state 2:_law_size 3:_law_rows 4:_law_parts 5:_law_many 6:_law_rounds 7:_law_records 8:_law_name 9:_law_vector 10:_law_actual 11:_law_cuts 12:_law_j 13:_law_books 14:_law_low 15:_law_high 16:_law_seen 17:_law_due 18:_law_leaves 19:_law_codes
def T_law_b1 (K : PySem.W.Frag) : TS :=
    (tDrop (tBM K "list" rAppend (tVar 19) (tCons (tCal (sp_law_nearest K) (tCons (tOp (uIx K) (tVar 13) (tVar 12)) (tCons (tSl (uSl K) (tVar 9) (tPart (tOp (uIx K) (tOp (uIx K) (tVar 11) (tVar 12)) (tC (.int 0)))) (tPart (tOp (uIx K) (tOp (uIx K) (tVar 11) (tVar 12)) (tC (.int 1))))) tNil))) tNil)))
def T_law_b2 (K : PySem.W.Frag) : TS :=
    (tSeq (tAsg (tLst tNil) (gName 19))
    (tSeq (tFor (iRng1 (tCons (tVar 4) tNil)) (gName 12) (T_law_b1 K))
    (tCut (tIfS (tTest (tOp (rNotInD K) (tVar 19) (tVar 16))) (tSeq (tDrop (tBM K "list" rAppend (tVar 16) (tCons (tVar 19) tNil)))
    (tDrop (tBM K "list" rAppend (tVar 17) (tCons (tTup (tCons (tC .non) (tCons (tLc (iRng1 (tCons (tVar 4) tNil)) (gName 12) tYes (tTup (tCons (tOp (uIx K) (tOp (uIx K) (tVar 11) (tVar 12)) (tC (.int 0))) (tCons (tCB (uList K) (tCons (tOp (uIx K) (tOp (uIx K) (tVar 13) (tVar 12)) (tOp (uIx K) (tVar 19) (tVar 12))) tNil)) tNil))) [12]) (tCons (tLst tNil) tNil)))) tNil)))) tNext)
    (tDrop (tBM K "list" rAppend (tVar 18) (tCons (tBM K "list" (rIndexD K) (tVar 16) (tCons (tVar 19) tNil)) tNil))))))
def T_law (K : PySem.W.Frag) (c : CEnv) : TS :=
    (tSeq (tAsg (tLst (tCons (tCB (uList K) (tCons (tVar 0) tNil)) (tCons (tC (.int 0)) (tCons (tC (.int 0)) tNil)))) (gName 1))
    (tSeq (tAsg (tOp (uAdd K) (tC (.int 1)) (tCal (sp_law_next K) (tCons (tVar 1) (tCons (tC (.int 5)) tNil)))) (gName 2))
    (tSeq (tAsg (tCal (sp_law_rows_of K) (tCons (tVar 1) (tCons (tVar 2) (tCons (tOp (uIx K) (tLst (tCons (tC (.int 2)) (tCons (tC (.int 3)) (tCons (tC (.int 50)) tNil)))) (tCal (sp_law_next K) (tCons (tVar 1) (tCons (tC (.int 3)) tNil)))) tNil)))) (gName 3))
    (tSeq (tAsg (tOp (uAdd K) (tC (.int 1)) (tCal (sp_law_next K) (tCons (tVar 1) (tCons (tC (.int 7)) tNil)))) (gName 4))
    (tSeq (tAsg (tOp (uAdd K) (tC (.int 1)) (tCal (sp_law_next K) (tCons (tVar 1) (tCons (tC (.int 3)) tNil)))) (gName 5))
    (tSeq (tAsg (tCal (sp_law_next K) (tCons (tVar 1) (tCons (tC (.int 3)) tNil))) (gName 6))
    (tSeq (tAsg (tLc (iSq K (tVar 3)) (gTup K 2 (gCons (gName 8) (gCons (gName 9) gNil))) tYes (tMkK K c "Record" ["name", "vector", "fields", "words"] 2 0 [.e, .e] [(false, 0), (false, 1)] (sp_Record_init K c) W0 (tCons (tVar 8) (tCons (tCB (uList K) (tCons (tVar 9) tNil)) tNil)) tNil) [8, 9]) (gName 7))
    (tSeq (tAsg (tMt c "Codes" "layout" (sp_Codes_layout K c) (tMkK K c "Codes" ["parts", "centres", "rounds"] 1 2 [] [(true, 0), (true, 1)] (sp_Codes_init K c) W0 (tCons (tVar 4) tNil) (tCons (tVar 5) (tCons (tVar 6) tNil))) (tCons (tMkK K c "Schema" ["size", "width", "measure", "fields"] 1 0 [(.v (.str "small")), (.v (.str "square")), .e] [(false, 0), (false, 1), (false, 2)] (sp_Schema_init K c) W0 (tCons (tVar 2) tNil) tNil) (tCons (tCB (uList K) (tCons (tVar 7) tNil)) tNil))) (gName 10))
    (tSeq (tAsg (tLc (iRng1 (tCons (tVar 4) tNil)) (gName 12) tYes (tTup (tCons (tOp uDiv (tOp uMul (tVar 12) (tVar 2)) (tVar 4)) (tCons (tOp uDiv (tOp uMul (tOp (uAdd K) (tVar 12) (tC (.int 1))) (tVar 2)) (tVar 4)) tNil))) [12]) (gName 11))
    (tSeq (tAsg (tLc (iSq K (tVar 11)) (gTup K 2 (gCons (gName 14) (gCons (gName 15) gNil))) tYes (tCal (sp_train K) (tCons (tLc (iSq K (tVar 3)) (gTup K 2 (gCons (gName 8) (gCons (gName 9) gNil))) tYes (tCB (uTuple K) (tCons (tSl (uSl K) (tVar 9) (tPart (tVar 14)) (tPart (tVar 15))) tNil)) [8, 9]) (tCons (tVar 5) (tCons (tVar 6) tNil)))) [14, 15]) (gName 13))
    (tSeq (tAsg (tLst tNil) (gName 16))
    (tSeq (tAsg (tLst tNil) (gName 17))
    (tSeq (tAsg (tLst tNil) (gName 18))
    (tSeq (tFor (iSq K (tVar 3)) (gTup K 2 (gCons (gName 8) (gCons (gName 9) gNil))) (T_law_b2 K))
    (tRet (tOp (uEq K) (tCal (sp_law_shown K c) (tCons (tVar 10) tNil)) (tTup (tCons (tVar 17) (tCons (tVar 18) tNil)))))))))))))))))))

theorem r_law {K : PySem.W.Frag} {c : CEnv} {a : Addr} {ns : List Int} {H : Hp} {D : Ends} (hS : SqL K H a (ns.map V.int)) (hl : ns.length ≤ 63) (q : ∀ H', D.rt (.bl true) H') : T_law K c D [some (.ref a), none, none, none, none, none, none, none, none, none, none, none, none, none, none, none, none, none, none, none] H := by
  unfold T_law
  walk_at "zz"
  rename_i l hl1 p hp
  have d0 := Draw.start hl1 hp
  generalize upd (upd H l (.lst (ns.map V.int))) p (.lst [.ref l, .int 0, .int 0]) = H0 at *
  walk_at "nx"
  intro n1 H1 a1 b1 d1 x1
  walk_at "zz"
  rename_i l3 hl3
  have d2 := Draw.new (o := .lst [.int 2, .int 3, .int 50]) hl3 d1
  have e3 : upd H1 l3 (.lst [.int 2, .int 3, .int 50]) l3 = some (.lst (([2, 3, 50] : List Int).map V.int)) := upd_same
  generalize upd H1 l3 (.lst [.int 2, .int 3, .int 50]) = H2 at *
  walk_at "nx"
  intro n2 H3 a2 b2 d3 x3
  have e33 := x3.lk e3 NotSt.ints
  walk_at "zz"
  try refine z_ix (.inl (SqL.of e33)) (at_int a2 (by simpa using b2)) ?_
  walk_at "zz"
  change sp_law_rows_of K [.ref p, .int (1 + n1), .int (fd3 n2)] _ _ _
  have fb := fd3_b a2 b2
  obtain ⟨sz, hsz⟩ : ∃ sz : Nat, 1 + n1 = (sz : Int) := ⟨(1 + n1).toNat, by omega⟩
  rw [hsz]
  refine law_rows_of_c d3 (by omega) fb.1 fb.2 fun r rws H4 hr dr lr okr d4 x4 => ?_
  walk_at "zz"
  walk_at "nx"
  intro m1 H5 a5 b5 d5 x5
  replace dr := dpS (flt_exd x5) dr
  obtain ⟨n, hn⟩ : ∃ n : Nat, 1 + m1 = (n : Int) := ⟨(1 + m1).toNat, by omega⟩
  walk_at "zz"
  walk_at "nx"
  intro m2 H6 a6 b6 d6 x6
  replace dr := dpS (flt_exd x6) dr
  obtain ⟨m, hm⟩ : ∃ m : Nat, 1 + m2 = (m : Int) := ⟨(1 + m2).toNat, by omega⟩
  walk_at "zz"
  walk_at "nx"
  intro m3 H7 a7 b7 d7 x7
  replace dr := dpS flt_le (dpS (flt_exd x7) dr)
  obtain ⟨t, ht⟩ : ∃ t : Nat, m3 = (t : Int) := ⟨m3.toNat, by omega⟩
  subst ht
  clear d0 d1 d2 d3 d4 d5 d6 d7 x1 x3 x4 x5 x6 x7 e3 e33
  obtain ⟨r', xs, e0, er, rr⟩ := dpL dr
  cases e0
  have lxs := dpsLen rr
  rw [List.length_map] at lxs
  rw [hn, hm]
  walk_at "zz"
  refine z_lcl er (fun C i H' => Same H7 H' ∧ ∃ ps : List Addr, H' C = some (.lst (ps.map V.ref)) ∧ All2 (VecAt K c H') ps ((ro1 rws).take i)) (fun C hC => ⟨Same.new hC (Same.refl _), [], upd_same, .nil⟩) (fun C i H' _ _ z => Same.seq z.1 er) ?_ ?_
  · rintro C i x H6 hC hx ⟨s6, ps, eC, rv⟩
    have hi : i < xs.length := (List.getElem?_eq_some_iff.mp hx).1
    have hi2 : i < rws.length := by omega
    obtain ⟨x', e', dx⟩ := dpsGet rr PyData.none (i := i) (by rw [List.length_map]; exact hi2)
    rw [hx] at e'
    obtain rfl := Option.some.inj e'
    rw [getD_map dRw hi2] at dx
    obtain ⟨t, u, rfl, et, eu⟩ := rwD_at (dpS s6 dx)
    have lp := All2.len rv
    rw [List.length_take, List.length_map] at lp
    refine z_gTup2 et ⟨rfl, ?_⟩
    walk_at "zz"
    rename_i l2 hl2
    refine ⟨rfl, rfl, ?_⟩
    rintro ok ds hds g dx2 hg hdx ne
    obtain ⟨T1, ds1, rfl, hT1, h2⟩ := cstE hds
    obtain ⟨T2, ds2, rfl, hT2, h3⟩ := cstE h2
    obtain rfl := cst0 h3
    have s7 : Same H6 (upd H6 l2 (.lst ((rws.getD i dRw).2.map V.int))) := Same.new hl2 (Same.refl _)
    have e7 : upd H6 l2 (.lst ((rws.getD i dRw).2.map V.int)) l2 = some (.lst ((rws.getD i dRw).2.map V.int)) := upd_same
    generalize upd H6 l2 (.lst ((rws.getD i dRw).2.map V.int)) = H7b at *
    have sg : Same H7b (upd (upd H7b dx2 (.own g)) g (.ins (c.cls "Record") dx2 [])) := Same.put hg (Same.new hdx (Same.refl _))
    show sp_Record_init K c [.ref g, .str (rws.getD i dRw).1, .ref l2, .ref T1, .ref T2] _ _ _
    refine Record_init_c ok upd_same (.inl (SqL.of (sg _ _ e7))) (PairsA.e (hT1 _)) (PairsA.e (hT2 _)) (by simp) (by simp) fun H8b b8 at8 => ?_
    have s8 : Same H7b H8b := b8.out hg hdx
    have s68 := Same.trans s7 s8
    have eC8 := s68 _ _ eC
    refine ⟨rfl, ?_⟩
    refine z_accum eC8 (by rw [List.length_map]; omega) ⟨Same.put hC (Same.trans s6 s68), ps ++ [g], by rw [upd_same, ref_app], ?_⟩
    have rv8 : All2 (VecAt K c (upd H8b C (.lst (ps.map V.ref ++ [.ref g])))) ps ((ro1 rws).take i) := All2.imp (fun _ _ ⟨n, fl, ws, h⟩ => ⟨n, fl, ws, (h.same s68).putL eC8⟩) rv
    rw [take_dS [] (by rw [List.length_map]; exact hi2), ro1_at hi2]
    exact rv8.app ⟨_, _, _, at8.putL eC8⟩
  rintro rc H6 hrc ⟨s6, ps, erc, rv⟩
  rw [lxs, show rws.length = (ro1 rws).length by rw [List.length_map], List.take_length] at rv
  replace dr := dpS s6 dr
  clear s6 hr er rr
  walk_at "zz"
  refine ⟨rfl, rfl, ?_⟩
  rintro okC ds hds g dx hg hdx ne
  obtain rfl := cst0 hds
  have sg : Same H6 (upd (upd H6 dx (.own g)) g (.ins (c.cls "Codes") dx [])) := Same.put hg (Same.new hdx (Same.refl _))
  show sp_Codes_init K c [.ref g, .int (n : Int), .int (m : Int), .int (t : Int)] _ _ _
  refine ⟨g, dx, n, m, t, rfl, okC, upd_same, by omega, by omega, by omega, fun H8 s8 atC => ?_⟩
  have s68 : Same H6 H8 := Same.trans (hidS1 hg sg) (Same.trans s8 hid_le)
  refine ⟨rfl, ?_⟩
  obtain ⟨okC2, dxC, eC⟩ := atC
  clear sg s8 okC
  replace rv : All2 (VecAt K c H8) ps (ro1 rws) := All2.imp (fun _ _ ⟨n, fl, ws, h⟩ => ⟨n, fl, ws, h.same s68⟩) rv
  replace dr := dpS s68 dr
  replace erc := s68 _ _ erc
  clear s68
  refine ⟨_, _, _, rfl, eC, rfl, ?_⟩
  walk_at "zz"
  refine ⟨rfl, rfl, ?_⟩
  rintro okS ds hds gs dxs hgs hdxs nes
  obtain ⟨ds1, rfl, h2⟩ := cstV hds
  obtain ⟨ds2, rfl, h3⟩ := cstV h2
  obtain ⟨T1, ds3, rfl, hT1, h4⟩ := cstE h3
  obtain rfl := cst0 h4
  show sp_Schema_init K c [.ref gs, .int (sz : Int), .str "small", .str "square", .ref T1] _ _ _
  refine ⟨gs, dxs, T1, (sz : Int), "small", "square", [], rfl, okS, upd_same, fun H' b => PairsA.e (hT1 _), by simp, (fun x h => nomatch h), fun _ H9 b9 at9 => ?_, fun z => absurd (good0 (by omega)) z⟩
  have s9 : Same H8 H9 := b9.out hgs hdxs
  refine ⟨rfl, ?_⟩
  obtain ⟨tf, i9, _⟩ := at9
  clear okS
  replace rv : All2 (VecAt K c H9) ps (ro1 rws) := All2.imp (fun _ _ ⟨n, fl, ws, h⟩ => ⟨n, fl, ws, h.same s9⟩) rv
  replace dr := dpS s9 dr
  replace erc := s9 _ _ erc
  replace eC := s9 _ _ eC
  clear b9 s9
  walk_at "zz"
  rename_i rc2 hrc2
  have s10 : Same H9 (upd H9 rc2 (.lst (ps.map V.ref))) := Same.new hrc2 (Same.refl _)
  have erc10 : upd H9 rc2 (.lst (ps.map V.ref)) rc2 = some (.lst (ps.map V.ref)) := upd_same
  generalize upd H9 rc2 (.lst (ps.map V.ref)) = H10 at *
  replace rv : All2 (VecAt K c H10) ps (ro1 rws) := All2.imp (fun _ _ ⟨n, fl, ws, h⟩ => ⟨n, fl, ws, h.same s10⟩) rv
  replace dr := dpS s10 dr
  have lro : (ro1 rws).length = rws.length := by rw [List.length_map]
  have okv : ∀ v ∈ ro1 rws, v.length = sz ∧ Bd 1000000 v := fun v hv => by
    obtain ⟨y, hy, e⟩ := List.mem_map.mp hv
    rw [← e]; exact okr y hy
  refine ⟨g, gs, rc2, sz, n, m, t, _, _, tf, ps, ro1 rws, rfl, ⟨okC2, dxC, s10 _ _ eC⟩, i9.same s10, erc10, rv, okv, by omega, by omega, by omega, by omega, by omega, by omega, by omega, fun ly H11 s11 lay => ?_⟩
  replace dr := dpS s11 dr
  clear rv erc erc10 eC s10 s11 okC2 i9
  generalize hvs : ro1 rws = vs at *
  have lbok : (booksZ sz n m t vs).length = n := booksZ_len
  have bok_at : ∀ j, j < n → (booksZ sz n m t vs).getD j dBk = bookZ sz n m t vs j := fun j hj => by
    unfold booksZ
    rw [List.getD_eq_getElem?_getD, List.getElem?_map, List.getElem?_range hj]; rfl
  walk_at "zz"
  refine z_lcr1 (by omega) ?_
  rw [Int.toNat_natCast]
  refine z_lcr (fun C j H' => Same H11 H' ∧ ∃ ms : List V, H' C = some (.lst ms) ∧ DpAll K (hid H' [C]) ms ((List.range j).map (cuD sz n))) (fun C hC => ⟨Same.new hC (Same.refl _), [], upd_same, .nil⟩) ?_ ?_
  · rintro C j H' hC hj ⟨s, ms, eC, rm⟩
    walk_at "zz"
    refine ⟨rfl, ?_⟩
    walk_at "zz"
    rename_i tt htt
    have lm := dpsLen rm
    rw [List.length_map, List.length_range] at lm
    refine z_accum (lk_new htt eC) (by omega) ⟨Same.put hC (Same.new htt s), ms ++ [.ref tt], upd_same, ?_⟩
    rw [hid_put (by simp), List.range_succ, List.map_append, show (0 + (j : Int)) = (j : Int) by omega]
    exact dpsApp (dpsS (hid_new htt) rm) (dp_newT htt (Occ.cons eC Occ.nil) (.cons (.int _) (.cons (.int _) .nil)))
  rintro cu H12 hcu ⟨s12, ms12, ecu12, rcu12⟩
  have dcu : Dp K H12 (.ref cu) (.list ((List.range n).map (cuD sz n))) := dpO0 ecu12 rcu12
  replace dr := dpS s12 dr
  replace lay := lay.same s12
  clear ecu12 rcu12 s12
  walk_at "zz"
  refine z_lcDp (f := cuD sz n) (g := fun j => .list ((bookZ sz n m t vs j).2.2.map tI)) 0 (ps := []) (.inl (by rw [hid_nil]; exact dcu)) (by rw [List.length_range]; omega) Occ.nil ?_ ?_
  · intro C j y H' k hj oc hC s dy q'
    rw [List.length_range] at hj
    have ej : (List.range n).getD j 0 = j := by rw [List.getD_eq_getElem?_getD, List.getElem?_range hj]; rfl
    rw [ej] at dy q'
    obtain ⟨ta, rfl, et⟩ := cuD_at dy
    refine z_gTup2 (Same.sqT hid_le et) ⟨rfl, ?_⟩
    have dr' := dpS (hidS1 hC s) dr
    obtain ⟨uC, euC⟩ := oc C (List.mem_cons_self ..)
    walk_at "zz"
    refine z_lcDp (f := rwD) (g := fun x => tI (cutZ x.2 ((j : Int) * sz / n) (((j : Int) + 1) * sz / n))) dRw (ps := [C]) (.inl dr') (by omega) oc ?_ ?_
    · intro C2 i y2 H2 k2 hi oc2 hC2 s2 dy2 q2
      obtain ⟨tb, ub, rfl, eb, ub2⟩ := rwD_at dy2
      refine z_gTup2 (Same.sqT hid_le eb) ⟨rfl, ?_⟩
      have ub3 := Same.seq hid_le ub2
      walk_at "zz"
      rename_i sl hsl
      have ec : cutV ((rws.getD i dRw).2.map V.int) (some ((j : Int) * sz / n)) (some (((j : Int) + 1) * sz / n)) = (cutZ (rws.getD i dRw).2 ((j : Int) * sz / n) (((j : Int) + 1) * sz / n)).map V.int := cutV_ints _ _ _
      rw [ec]
      refine z_tupleL (SqL.of upd_same) fun t3 ht3 => ?_
      have sn := Same.new (o := .lst ((cutZ (rws.getD i dRw).2 ((j : Int) * sz / n) (((j : Int) + 1) * sz / n)).map V.int)) hsl (Same.refl H2)
      exact q2 _ _ (Same.new ht3 sn) (dpTI (SqT.of (hid_lk ((oc2.same sn).no ht3) upd_same)))
    intro pc H2 hpc s2 oc2 dpc
    have dpc2 : Dp K (hid H2 [C]) (.ref pc) (.list ((vs.map fun v => cutZ v ((j : Int) * sz / n) (((j : Int) + 1) * sz / n)).map tI)) := by
      rw [← hvs]; rw [show (rws.map fun x => tI (cutZ x.2 ((j : Int) * sz / n) (((j : Int) + 1) * sz / n))) = ((ro1 rws).map fun v => cutZ v ((j : Int) * sz / n) (((j : Int) + 1) * sz / n)).map tI by simp [ro1, List.map_map, Function.comp_def]] at dpc; exact dpc
    walk_at "zz"
    refine train_c (sz := clen sz ((j : Int) * sz / n) (((j : Int) + 1) * sz / n)) [C] (oc.same s2) dpc2 (fun c hc => ?_) (Nat.le_trans clen_le (by omega)) (by rw [List.length_map]; omega) (by omega) (by omega) fun tr H3 s3 dtr => ?_
    · obtain ⟨v, hv, rfl⟩ := List.mem_map.mp hc
      rw [cutZ_len, (okv v hv).1]
      exact ⟨rfl, cutZ_bd (okv v hv).2⟩
    rw [List.length_map, Int.toNat_natCast, Int.toNat_natCast] at dtr
    exact q' _ _ (s2.trans s3) dtr
  intro bk H13 hbk s13 oc13 dbk
  rw [hid_nil] at dbk
  replace dr := dpS s13 dr
  replace dcu := dpS s13 dcu
  replace lay := lay.same s13
  clear s13 oc13 hbk
  walk_at "zz"
  rename_i se hse du hdu lf hlf
  have e1 : upd H13 se (.lst []) se = some (.lst []) := upd_same
  have s3 : Same H13 (hid (upd H13 se (.lst [])) [se]) := hidS1 hse (Same.new hse (Same.refl _))
  generalize upd H13 se (.lst []) = H3 at *
  have ndu : du ≠ se := fun z => by subst z; rw [hdu] at e1; cases e1
  have e2 := lk_new (o := .lst []) hdu e1
  have e2s : upd H3 du (.lst []) du = some (.lst []) := upd_same
  have s4 : Same (hid H3 [se]) (hid (upd H3 du (.lst [])) [du, se]) := hid_ofS hdu (Same.new hdu (Same.refl _))
  generalize upd H3 du (.lst []) = H4 at *
  have nlf1 : lf ≠ se := fun z => by subst z; rw [hlf] at e2; cases e2
  have nlf2 : lf ≠ du := fun z => by subst z; rw [hlf] at e2s; cases e2s
  have e3 := lk_new (o := .lst []) hlf e2
  have e3s := lk_new (o := .lst []) hlf e2s
  have e3l : upd H4 lf (.lst []) lf = some (.lst []) := upd_same
  have s5 : Same (hid H4 [du, se]) (hid (upd H4 lf (.lst [])) [lf, du, se]) := hid_ofS hlf (Same.new hlf (Same.refl _))
  generalize upd H4 lf (.lst []) = H5 at *
  have s25 := Same.trans s3 (Same.trans s4 s5)
  replace dr := dpS s25 dr
  replace dcu := dpS s25 dcu
  replace dbk := dpS s25 dbk
  replace lay := lay.same s25
  clear s3 s4 s5 s25 e1 e2 e2s hdu hlf hse lxs
  obtain ⟨r', xr, e0, er, rr⟩ := dpL dr
  cases e0
  have lxr := dpsLen rr
  rw [List.length_map] at lxr
  obtain ⟨cu', xc, e0, ecu, rcu⟩ := dpL dcu
  cases e0
  obtain ⟨bk', xb, e0, ebk, rbk⟩ := dpL dbk
  cases e0
  have lrg : (List.range n).length = n := List.length_range
  have rg_at : ∀ j, j < n → (List.range n).getD j 0 = j := fun j hj => by rw [List.getD_eq_getElem?_getD, List.getElem?_range hj]; rfl
  have cu_at : ∀ j : Nat, j < n → ∃ ta, atI xc (0 + (j : Int)) = some (.ref ta) ∧ SqT K (hid H5 [lf, du, se]) ta [.int ((j : Int) * sz / n), .int (((j : Int) + 1) * sz / n)] := fun j hj => by
    obtain ⟨v, av, dv⟩ := dpsAt 0 rcu (i := 0 + (j : Int)) (by omega) (by rw [lrg]; omega)
    rw [show (0 + (j : Int)).toNat = j by omega, rg_at j hj] at dv
    obtain ⟨ta, rfl, et⟩ := cuD_at dv
    exact ⟨ta, av, et⟩
  have bk_at : ∀ j : Nat, j < n → ∃ v, atI xb (0 + (j : Int)) = some v ∧ Dp K (hid H5 [lf, du, se]) v (.list ((bookZ sz n m t vs j).2.2.map tI)) := fun j hj => by
    obtain ⟨v, av, dv⟩ := dpsAt 0 rbk (i := 0 + (j : Int)) (by omega) (by rw [lrg]; omega)
    rw [show (0 + (j : Int)).toNat = j by omega, rg_at j hj] at dv
    exact ⟨v, av, dv⟩
  clear rcu rbk dcu dbk dr
  generalize hbk : booksZ sz n m t vs = bok at *
  walk_at "zz"
  refine z_forL (Same.seq hid_le er) (fun i σ H' => Same (hid H5 [lf, du, se]) (hid H' [lf, du, se]) ∧ (∃ (v8 v9 v12 v14 v15 v19 : Option V), σ = [some (.ref a), some (.ref p), some (.int (sz : Int)), some (.ref r), some (.int (n : Int)), some (.int (m : Int)), some (.int (t : Int)), some (.ref rc), v8, v9, some (.ref ly), some (.ref cu), v12, some (.ref bk), v14, v15, some (.ref se), some (.ref du), some (.ref lf), v19]) ∧
    (∃ ms : List V, H' se = some (.lst ms) ∧ DpAll K (hid H' [lf, du, se]) ms ((cdZ bok (vs.take i)).1.map rD)) ∧ (∃ ms : List V, H' du = some (.lst ms) ∧ DpAll K (hid H' [lf, du, se]) ms ((cdZ bok (vs.take i)).2.1.map skD)) ∧ H' lf = some (.lst ((cdZ bok (vs.take i)).2.2.map V.int)))
    ⟨Same.refl _, ⟨_, _, _, _, _, _, rfl⟩, ⟨[], e3, .nil⟩, ⟨[], e3s, .nil⟩, e3l⟩ (fun i σ' H' _ z => Same.seq (Same.trans z.1 hid_le) er) ?_ ?_
  · rintro i σ x H6 hx ⟨s6, ⟨v8, v9, v12, v14, v15, v19, rfl⟩, ⟨ms, ese, dse⟩, ⟨md, edu, ddu⟩, elf⟩
    have hi : i < xr.length := (List.getElem?_eq_some_iff.mp hx).1
    have hi2 : i < rws.length := by omega
    obtain ⟨x', ex, dx⟩ := dpsGet rr PyData.none (i := i) (by rw [List.length_map]; exact hi2)
    rw [hx] at ex
    obtain rfl := Option.some.inj ex
    rw [getD_map dRw hi2] at dx
    obtain ⟨ra, ru, rfl, era, eru⟩ := rwD_at dx
    have bko : BkOk sz bok := by rw [← hbk]; exact booksZ_ok okv (by omega) (by omega) (by omega)
    have stp := cdZ_take (bk := bok) (vs := vs) (i := i) (by omega)
    have ev : vs.getD i [] = (rws.getD i dRw).2 := by rw [← hvs]; exact ro1_at hi2
    rw [ev] at stp
    obtain ⟨⟨l1, l2⟩, l3⟩ := cdZ_len (bk := bok) (vs.take i) ([], [], [])
    change (cdZ bok (vs.take i)).1.length ≤ _ at l1
    change (cdZ bok (vs.take i)).2.1.length ≤ _ at l2
    change (cdZ bok (vs.take i)).2.2.length = _ at l3
    rw [List.length_take] at l1 l2 l3
    generalize cdZ bok (vs.take i) = X at *
    obtain ⟨R, S', L'⟩ := X
    have hv := okr _ (getD_mem' dRw hi2)
    generalize (rws.getD i dRw).1 = nm at *
    generalize (rws.getD i dRw).2 = v at *
    simp only [List.length_nil] at *
    have lms := dpsLen dse
    have lmd := dpsLen ddu
    rw [List.length_map] at lms lmd
    have era6 := Same.sqT (Same.trans s6 hid_le) era
    have eru6 := Same.seq (Same.trans s6 hid_le) eru
    have ecu6 := Same.seq (Same.trans s6 hid_le) ecu
    have ebk6 := Same.seq (Same.trans s6 hid_le) ebk
    have lrow : (rowZ bok v).length = n := by unfold rowZ; rw [List.length_map]; exact lbok
    have row_at : ∀ j, j < n → (rowZ bok v).getD j 0 = (nearZ (bok.getD j dBk).2.2 (cutZ v (bok.getD j dBk).1 (bok.getD j dBk).2.1) : Int) := fun j hj => by
      unfold rowZ
      rw [List.getD_eq_getElem?_getD, List.getElem?_map, List.getD_eq_getElem?_getD, List.getElem?_eq_getElem (by omega)]; rfl
    have bo_mem : ∀ j, j < n → bookZ sz n m t vs j ∈ bok := fun j hj => by rw [← bok_at j hj]; exact getD_mem' dBk (by omega)
    refine z_gTup2 era6 ?_
    unfold T_law_b2
    walk_at "zz"
    rename_i cd hcd
    refine z_rng1 (by omega) ?_ (by omega)
    rw [Int.toNat_natCast]
    refine z_rng (fun j σ H' => Same H6 H' ∧ (∃ (v12 : Option V), σ = [some (.ref a), some (.ref p), some (.int (sz : Int)), some (.ref r), some (.int (n : Int)), some (.int (m : Int)), some (.int (t : Int)), some (.ref rc), some (.str nm), some (.ref ru), some (.ref ly), some (.ref cu), v12, some (.ref bk), v14, v15, some (.ref se), some (.ref du), some (.ref lf), some (.ref cd)]) ∧ H' cd = some (.lst (((rowZ bok v).take j).map V.int)))
      ⟨Same.new hcd (Same.refl _), ⟨_, rfl⟩, upd_same⟩ ?_ ?_
    · rintro j σ H7 hj ⟨s7, ⟨v12, rfl⟩, ecd⟩
      obtain ⟨vb, ab, dvb⟩ := bk_at j hj
      obtain ⟨tc, ac, etc⟩ := cu_at j hj
      obtain ⟨vba, us, rfl, evb, _⟩ := dpL dvb
      have ecu7 := Same.seq s7 ecu6
      have ebk7 := Same.seq s7 ebk6
      have eru7 := Same.seq s7 eru6
      have s57 := Same.trans (Same.trans s6 hid_le) s7
      have etc7 := Same.sqT s57 etc
      unfold T_law_b1
      walk_at "zz"
      try refine z_ix (.inl ebk7) ab ?_
      walk_at "zz"
      try refine z_ix (.inl ecu7) ac ?_
      walk_at "zz"
      try refine z_ix (.inr etc7) (v := .int ((j : Int) * sz / n)) rfl ?_
      walk_at "zz"
      try refine z_ix (.inl ecu7) ac ?_
      walk_at "zz"
      try refine z_ix (.inr etc7) (v := .int (((j : Int) + 1) * sz / n)) rfl ?_
      walk_at "zz"
      rename_i sl hsl
      have ec : cutV (v.map V.int) (some ((j : Int) * sz / n)) (some (((j : Int) + 1) * sz / n)) = (cutZ v ((j : Int) * sz / n) (((j : Int) + 1) * sz / n)).map V.int := cutV_ints _ _ _
      rw [ec]
      have sn : Same H7 (upd H7 sl (.lst ((cutZ v ((j : Int) * sz / n) (((j : Int) + 1) * sz / n)).map V.int))) := Same.new hsl (Same.refl _)
      have bj := bko _ (bo_mem j hj)
      have cl := clen_le (n := sz) (s := ((j : Int) * sz / n)) (e := (((j : Int) + 1) * sz / n))
      refine law_nearest_c (dpS (Same.trans s57 sn) dvb) (SqL.of upd_same) (by rw [cutZ_len, hv.1]; exact bj.1) (cutZ_bd hv.2) (by rw [cutZ_len, hv.1]; omega) bj.2.2 ?_
      walk_at "zz"
      refine z_app (sn _ _ ecd) (by rw [List.length_map, List.length_take]; omega) ?_
      refine ⟨Same.put hcd (Same.trans s7 sn), ⟨_, rfl⟩, ?_⟩
      have rj := row_at j hj
      rw [bok_at j hj] at rj
      rw [upd_same, take_dS 0 (by omega), List.map_append, rj]
      rfl
    · rintro σ H7 ⟨s7, ⟨v12, rfl⟩, ecd⟩
      rw [List.take_of_length_le (by omega)] at ecd
      have s67 : Same (hid H6 [lf, du, se]) (hid H7 [lf, du, se]) := hid_same s7
      have ese7 := s7 _ _ ese
      have edu7 := s7 _ _ edu
      have elf7 := s7 _ _ elf
      have dse7 := dpsS s67 dse
      have oc6 : Occ H6 [lf, du, se] := Occ.cons elf (Occ.cons edu (Occ.cons ese Occ.nil))
      have ncd := oc6.no hcd
      have dcd7 : Dp K (hid H7 [lf, du, se]) (.ref cd) (rD (rowZ bok v)) := dpLI (SqL.of (hid_lk ncd ecd))
      unfold stepC at stp
      simp only at stp
      have lsk : (bok.zip (rowZ bok v)).length = n := by rw [List.length_zip]; omega
      have sk_at : ∀ j, j < n → (bok.zip (rowZ bok v)).getD j (dBk, 0) = (bookZ sz n m t vs j, (rowZ bok v).getD j 0) := fun j hj => by
        rw [List.getD_eq_getElem?_getD, List.getElem?_eq_getElem (by omega), List.getElem_zip, ← bok_at j hj, List.getD_eq_getElem?_getD, List.getElem?_eq_getElem (show j < bok.length by omega), List.getD_eq_getElem?_getD, List.getElem?_eq_getElem (show j < (rowZ bok v).length by omega)]; rfl
      have cd_lt : ∀ j, j < n → ∃ g : Nat, (rowZ bok v).getD j 0 = (g : Int) ∧ g < (bookZ sz n m t vs j).2.2.length := fun j hj => by
        have rj := row_at j hj
        rw [bok_at j hj] at rj
        exact ⟨_, rj, near_lt (bko _ (bo_mem j hj)).2.1⟩
      clear row_at
      generalize rowZ bok v = w at *
      refine z_cut (fun σ' H8 => ∃ (v12 : Option V) (ms2 md2 : List V), σ' = [some (.ref a), some (.ref p), some (.int (sz : Int)), some (.ref r), some (.int (n : Int)), some (.int (m : Int)), some (.int (t : Int)), some (.ref rc), some (.str nm), some (.ref ru), some (.ref ly), some (.ref cu), v12, some (.ref bk), v14, v15, some (.ref se), some (.ref du), some (.ref lf), some (.ref cd)] ∧ Same (hid H5 [lf, du, se]) (hid H8 [lf, du, se]) ∧ H8 se = some (.lst ms2) ∧ DpAll K (hid H8 [lf, du, se]) ms2 ((addR R w).map rD) ∧
        H8 du = some (.lst md2) ∧ DpAll K (hid H8 [lf, du, se]) md2 ((if w ∈ R then S' else S' ++ [skC bok w]).map skD) ∧ H8 lf = some (.lst (L'.map V.int)) ∧ Dp K (hid H8 [lf, du, se]) (.ref cd) (rD w)) ?_ ?_
      · walk_at "zz"
        refine z_notInR (r := w) (R := R) (dpS hid_le dcd7) (.lst (SqL.of ese7) (dpsS hid_le dse7)) ?_
        walk_at "zz"
        by_cases c1 : w ∈ R
        · rw [decide_eq_true c1]
          walk_at "zx"
          refine ⟨_, ms, md, rfl, Same.trans s6 s67, ese7, ?_, edu7, ?_, elf7, dcd7⟩
          · unfold addR; rw [if_pos c1]; exact dse7
          · rw [if_pos c1]; exact dpsS s67 ddu
        · rw [decide_eq_false c1]
          walk_at "zx"
          refine z_app ese7 (by omega) ?_
          have e8s : upd H7 se (.lst (ms ++ [.ref cd])) se = some (.lst (ms ++ [.ref cd])) := upd_same
          have e8d : upd H7 se (.lst (ms ++ [.ref cd])) du = some (.lst md) := lk_ne ndu edu7
          have e8l : upd H7 se (.lst (ms ++ [.ref cd])) lf = some (.lst (L'.map V.int)) := lk_ne nlf1 elf7
          have s78 : Same (hid H7 [lf, du, se]) (hid (upd H7 se (.lst (ms ++ [.ref cd]))) [lf, du, se]) := by rw [hid_put (by simp)]; exact Same.refl _
          generalize upd H7 se (.lst (ms ++ [.ref cd])) = H8 at *
          have d8 := dpS s78 dcd7
          have s58 := Same.trans s6 (Same.trans s67 s78)
          have dse8 : DpAll K (hid H8 [lf, du, se]) (ms ++ [.ref cd]) ((addR R w).map rD) := by
            unfold addR; rw [if_neg c1, List.map_append]; exact dpsApp (dpsS s78 dse7) d8
          have oc8 : Occ H8 [lf, du, se] := Occ.cons e8l (Occ.cons e8d (Occ.cons e8s Occ.nil))
          obtain ⟨cd', e0, ecd8⟩ := dpLI' d8
          cases e0
          walk_at "zz"
          refine z_lcr1 (by omega) ?_
          rw [Int.toNat_natCast]
          refine z_lcr (fun C j H' => Same H8 H' ∧ ∃ mc : List V, H' C = some (.lst mc) ∧ DpAll K (hid H' (C :: [lf, du, se])) mc (((bok.zip w).take j).map fun z => ctL (z.1.1, z.1.2.2.getD z.2.toNat []))) (fun C hC => ⟨Same.new hC (Same.refl _), [], upd_same, .nil⟩) ?_ ?_
          · rintro C j H' hC hj ⟨s, mc, eC, rm⟩
            obtain ⟨vb, ab, dvb⟩ := bk_at j hj
            obtain ⟨tc, ac, etc⟩ := cu_at j hj
            obtain ⟨vba, us, rfl, evb, rvb⟩ := dpL dvb
            obtain ⟨g, eg, hg⟩ := cd_lt j hj
            obtain ⟨w1, aw, dw⟩ := dpsAt [] rvb (i := (g : Int)) (by omega) (by omega)
            rw [Int.toNat_natCast] at dw
            obtain ⟨wb, rfl, ewb⟩ := dpTI' dw
            have s9 := Same.trans (Same.trans s58 hid_le) s
            have ecu9 := Same.seq s9 ecu
            have ebk9 := Same.seq s9 ebk
            have etc9 := Same.sqT s9 etc
            have evb9 := Same.seq s9 evb
            have ewb9 := Same.sqT s9 ewb
            have ecd9 := Same.seq (Same.trans hid_le s) ecd8
            have acd : atI (w.map V.int) (0 + (j : Int)) = some (.int (g : Int)) := by rw [at_int (by omega) (by omega), show (0 + (j : Int)).toNat = j by omega, eg]
            walk_at "zz"
            refine ⟨rfl, ?_⟩
            walk_at "zz"
            try refine z_ix (.inl ecu9) ac ?_
            walk_at "zz"
            try refine z_ix (.inr etc9) (v := .int ((j : Int) * sz / n)) rfl ?_
            walk_at "zz"
            try refine z_ix (.inl ebk9) ab ?_
            walk_at "zz"
            try refine z_ix (.inl ecd9) acd ?_
            walk_at "zz"
            try refine z_ix (.inl evb9) aw ?_
            walk_at "zz"
            rename_i l2 hl2 tt htt
            have oc' : Occ H' [C, lf, du, se] := Occ.cons eC (oc8.same s)
            have s1 : Same H' (upd H' l2 (.lst (((bookZ sz n m t vs j).2.2.getD g []).map V.int))) := Same.new hl2 (Same.refl _)
            have d1 : Dp K (hid (upd H' l2 (.lst (((bookZ sz n m t vs j).2.2.getD g []).map V.int))) [C, lf, du, se]) (.ref l2) (.list (diI ((bookZ sz n m t vs j).2.2.getD g []))) := dp_newL hl2 oc' dpsI'
            generalize upd H' l2 (.lst (((bookZ sz n m t vs j).2.2.getD g []).map V.int)) = Ha at *
            have s2 : Same Ha (upd Ha tt (.tup [.int ((j : Int) * sz / n), .ref l2])) := Same.new htt (Same.refl _)
            have d2 := dp_newT htt (oc'.same s1) (.cons (.int ((j : Int) * sz / n)) (.cons d1 .nil))
            have lmc := dpsLen rm
            rw [List.length_map, List.length_take] at lmc
            refine z_accum (s2 _ _ (s1 _ _ eC)) (by omega) ⟨Same.put hC (Same.trans s (Same.trans s1 s2)), mc ++ [.ref tt], upd_same, ?_⟩
            rw [hid_put (by simp), take_dS (dBk, 0) (by omega), List.map_append, sk_at j hj, eg]
            exact dpsApp (dpsS (hid_same (Same.trans s1 s2)) rm) d2
          · rintro C H9 hC ⟨s9, mc, eC, rm⟩
            rw [List.take_of_length_le (by omega)] at rm
            have dC : Dp K (hid H9 [lf, du, se]) (.ref C) (.list ((bok.zip w).map fun z => ctL (z.1.1, z.1.2.2.getD z.2.toNat []))) := dpO eC (oc8.no hC) rm
            walk_at "zz"
            rename_i le hle tt htt
            have oc9 := oc8.same s9
            have s1 : Same H9 (upd H9 le (.lst [])) := Same.new hle (Same.refl _)
            have d1 : Dp K (hid (upd H9 le (.lst [])) [lf, du, se]) (.ref le) (.list []) := dp_newL hle oc9 .nil
            replace dC := dpS (hid_same s1) dC
            generalize upd H9 le (.lst []) = Ha at *
            have s2 : Same Ha (upd Ha tt (.tup [.non, .ref C, .ref le])) := Same.new htt (Same.refl _)
            have zs : skD (skC bok w) = .tuple [.none, .list ((bok.zip w).map fun z => ctL (z.1.1, z.1.2.2.getD z.2.toNat [])), .list []] := by
              unfold skC; simp [skD, hD, List.map_map, Function.comp_def]
            have d2 : Dp K (hid (upd Ha tt (.tup [.non, .ref C, .ref le])) [lf, du, se]) (.ref tt) (skD (skC bok w)) := by rw [zs]; exact dp_newT htt (oc9.same s1) (.cons .non (.cons dC (.cons d1 .nil)))
            generalize upd Ha tt (.tup [.non, .ref C, .ref le]) = Hb at *
            have s8b := Same.trans s9 (Same.trans s1 s2)
            have ebs := s8b _ _ e8s
            have ebd := s8b _ _ e8d
            have ebl := s8b _ _ e8l
            refine z_app ebd (by omega) ?_
            have sbc : Same (hid Hb [lf, du, se]) (hid (upd Hb du (.lst (md ++ [.ref tt]))) [lf, du, se]) := by rw [hid_put (by simp)]; exact Same.refl _
            have s8c := Same.trans (hid_same (ps := [lf, du, se]) s8b) sbc
            refine ⟨_, ms ++ [.ref cd], md ++ [.ref tt], rfl, Same.trans s58 s8c, lk_ne (fun z => ndu z.symm) ebs, dpsS s8c dse8, upd_same, ?_, lk_ne nlf2 ebl, dpS s8c d8⟩
            rw [if_neg c1, List.map_append]
            exact dpsApp (dpsS (Same.trans s67 (Same.trans s78 s8c)) ddu) (dpS sbc d2)
      · rintro σ' H8 ⟨v12, ms2, md2, rfl, s8, e8s, d8s, e8d, d8d, e8l, d8⟩
        walk_at "zz"
        refine z_indexR (r := w) (R := addR R w) (dpS hid_le d8) (.lst (SqL.of e8s) (dpsS hid_le d8s)) addR_mem ?_
        walk_at "zz"
        refine z_app e8l (by rw [List.length_map]; omega) ?_
        rw [stp]
        have s9 : Same (hid H8 [lf, du, se]) (hid (upd H8 lf (.lst (L'.map V.int ++ [.int (idxR (addR R w) w : Nat)]))) [lf, du, se]) := hid1
        refine ⟨Same.trans s8 s9, ⟨_, _, _, _, _, _, rfl⟩, ⟨ms2, lk_ne (fun z => nlf1 z.symm) e8s, dpsS s9 d8s⟩, ⟨md2, lk_ne (fun z => nlf2 z.symm) e8d, dpsS s9 d8d⟩, by rw [upd_same]; simp⟩
  · rintro σ H6 ⟨s6, ⟨v8, v9, v12, v14, v15, v19, rfl⟩, ⟨ms, ese, dse⟩, ⟨md, edu, ddu⟩, elf⟩
    rw [lxr, ← lro, List.take_length] at ddu elf
    walk_at "zz"
    obtain ⟨⟨l1, l2⟩, l3⟩ := cdZ_len (bk := bok) vs ([], [], [])
    change (cdZ bok vs).2.1.length ≤ _ at l2
    simp only [List.length_nil] at l2
    have skl := sk_len (bk := bok) vs ([], [], []) (fun _ h => nomatch h)
    change ∀ s ∈ (cdZ bok vs).2.1, _ at skl
    refine law_shown_c (lay.same (Same.trans s6 hid_le)) (by omega) (fun s hs => ⟨by have := (skl s hs).1; omega, by rw [(skl s hs).2]; simp⟩) fun act aa ab H7 s7 eact daa eab => ?_
    walk_at "zz"
    rename_i tw htw
    have edu7 := s7 _ _ edu
    have elf7 := s7 _ _ elf
    have ddu7 := dpsS (hid_same (ps := [lf, du, se]) s7) ddu
    have st := Same.new (o := .tup [.ref du, .ref lf]) htw (Same.refl H7)
    have dact : Dp K (upd H7 tw (.tup [.ref du, .ref lf])) (.ref act) (.tuple [.list ((cdZ bok vs).2.1.map skD), .list (diI (cdZ bok vs).2.2)]) := .tup (SqT.of (st _ _ eact)) (.cons (dpS st daa) (.cons (dpLI (SqL.of (st _ _ eab))) .nil))
    have ddue : Dp K (upd H7 tw (.tup [.ref du, .ref lf])) (.ref tw) (.tuple [.list ((cdZ bok vs).2.1.map skD), .list (diI (cdZ bok vs).2.2)]) := dp_nT htw (.cons (.lst (SqL.of edu7) (dpsS hid_le ddu7)) (.cons (dpLI (SqL.of elf7)) .nil))
    refine z_eqP (n := 6) dact ddue (lay1.tuple fun d h => ?_) (by decide) (q _)
    rcases List.mem_cons.mp h with rfl | h
    · refine lay1.list fun d h => ?_
      obtain ⟨x, _, rfl⟩ := List.mem_map.mp h
      exact skD_lay
    · rw [List.mem_singleton.mp h]; exact lay1.list lay1.ints
theorem w_law {K : PySem.W.Frag} {c : CEnv} : Wd (T_law K c) N_law 1 (sp_law K) := fun vs H Q E h => by
  obtain ⟨a, ns, rfl, hS, hl, q⟩ := h
  exact ⟨rfl, r_law hS hl q⟩
/-! ### the text by places, and its defs, each once -/
def topS (i : Nat) : Stmt := PySem.Challenge.pw_surenear_k31_codes.main.body.getD i (.Pass ⟨0, 0, 0, 0⟩)
section
variable {P : Program} {w : World} {K : PySem.W.Frag} {mg : Str → Option Value} {base : Heap} {c : CEnv}
abbrev s_law_row : Stmt := (topS 34)
theorem sc_law_row : FnScope N_law_row ["_law_script", "_law_k"] (defScope s_law_row) := ⟨rfl, rfl, rfl, by decide +kernel, rfl, by decide +kernel, by decide +kernel⟩
theorem ok_law_row (m_len : mg "len" = none) (m_int : mg "int" = none) {f : Addr} {fd : FuncData} (F : Fun K "_law_row" "_law_row" s_law_row f fd) : FnOk P w K mg base CX0 1 f fd ["_law_script", "_law_k"] (sp_law_row K) := by
  have sc := sc_law_row
  refine F.ok sc_law_row (fun vs H Q E h => ((w_law_row) vs H Q E h).1) (fun cdv A outer s H vs Q E hr h => ⟨T_law_row K, ?_, ((w_law_row) vs H Q E h).2⟩)
  exact (pss_cons (ps_set (i := 2) sc.nd rfl (by first | exact Or.inl rfl | exact Or.inr rfl) pe_int)
      (pss_cut (ps_if (pt_cmpR (op_uLt hr.units) (pv 1) (pe_callB call_uLen (by rfl) m_len (by decide +kernel) (pa_cons (pv 0) pa_nil)) (nomark _)) (pss_one (ps_set (i := 2) sc.nd rfl (by first | exact Or.inl rfl | exact Or.inr rfl) (pe_ix ix_uIx (pv 0) (pv 1) (fun _ _ => rfl)))) pss_nil)
      (pss_cut (ps_if (pt_cmpR (op_uLt hr.units) (pv 2) pe_int (nomark _)) (pss_one (ps_set (i := 2) sc.nd rfl (by first | exact Or.inl rfl | exact Or.inr rfl) (pe_op op_uSub (pe_op op_uMul (pe_un un_uNeg pe_int) (pv 2)) pe_int))) pss_nil)
      (pss_cut (ps_if (pt_cmpR (op_uLt hr.units) (pv 2) (pe_op op_uPow pe_int pe_int) (nomark _)) (pss_cons (ps_set (i := 3) sc.nd rfl (by first | exact Or.inl rfl | exact Or.inr rfl) (pe_op op_uMod (pe_callTy call_uInt (by rfl) m_int (by decide +kernel) (pa_cons (pe_op op_uAdd (pe_op op_uAdd (pe_op op_uMul (pv 2) pe_int) (pe_op op_uMul (pv 1) pe_int)) pe_int) pa_nil)) pe_int))
      (pss_cons (ps_set (i := 4) sc.nd rfl (by first | exact Or.inl rfl | exact Or.inr rfl) (pe_op op_uMod (pe_callTy call_uInt (by rfl) m_int (by decide +kernel) (pa_cons (pe_op op_uAdd (pe_op op_uAdd (pe_op op_uAdd (pe_op op_uMul (pv 3) pe_int) (pe_op op_uMul (pv 2) pe_int)) (pv 1)) pe_int) pa_nil)) pe_int))
      (pss_cons (ps_set (i := 5) sc.nd rfl (by first | exact Or.inl rfl | exact Or.inr rfl) (pe_op op_uMod (pe_callTy call_uInt (by rfl) m_int (by decide +kernel) (pa_cons (pe_op op_uAdd (pe_op op_uAdd (pe_op op_uMul (pv 4) pe_int) (pe_op op_uMul (pv 3) (pv 4))) pe_int) pa_nil)) pe_int))
      (pss_one (ps_set (i := 2) sc.nd rfl (by first | exact Or.inl rfl | exact Or.inr rfl) (pe_op op_uAdd (pe_op op_uAdd (pv 3) (pe_op op_uMul (pv 4) pe_int)) (pe_op op_uMul (pv 5) (pe_op op_uPow pe_int pe_int)))))))) pss_nil)
      (pss_one (ps_ret (pv 2)))))))
abbrev s_law_next : Stmt := (topS 35)
theorem sc_law_next : FnScope N_law_next ["_law_state", "_law_many"] (defScope s_law_next) := ⟨rfl, rfl, rfl, by decide +kernel, rfl, by decide +kernel, by decide +kernel⟩
theorem ok_law_next (D_law_row : Dfn P w K mg base 1 "_law_row" ["_law_script", "_law_k"] (sp_law_row K)) (m_int : mg "int" = none) {f : Addr} {fd : FuncData} (F : Fun K "_law_next" "_law_next" s_law_next f fd) : FnOk P w K mg base CX0 2 f fd ["_law_state", "_law_many"] (sp_law_next K) := by
  have sc := sc_law_next
  refine F.ok sc_law_next (fun vs H Q E h => ((w_law_next) vs H Q E h).1) (fun cdv A outer s H vs Q E hr h => ⟨T_law_next K, ?_, ((w_law_next) vs H Q E h).2⟩)
  exact (pss_cut (ps_if (pt_cmpR (op_uLt hr.units) (pe_ix ix_uIx (pv 0) pe_int (fun _ _ => rfl)) (pv 1) (nomark _)) (pss_cons (ps_asg (z_call D_law_row (hr.mono (by decide)) (by rfl) (pa_cons (pe_ix ix_uIx (pv 0) pe_int (fun _ _ => rfl)) (pa_cons (pe_ix ix_uIx (pv 0) pe_int (fun _ _ => rfl)) pa_nil))) (pg_sub (pv 0) pe_int set_list))
      (pss_one (ps_asg (pe_op op_uAdd (pe_ix ix_uIx (pv 0) pe_int (fun _ _ => rfl)) pe_int) (pg_sub (pv 0) pe_int set_list)))) pss_nil)
      (pss_cons (ps_set (i := 2) sc.nd rfl (by first | exact Or.inl rfl | exact Or.inr rfl) (pe_op op_uMod (pe_callTy call_uInt (by rfl) m_int (by decide +kernel) (pa_cons (pe_ix ix_uIx (pv 0) pe_int (fun _ _ => rfl)) pa_nil)) (pv 1)))
      (pss_cons (ps_asg (pe_op op_uDiv (pe_ix ix_uIx (pv 0) pe_int (fun _ _ => rfl)) (pv 1)) (pg_sub (pv 0) pe_int set_list))
      (pss_one (ps_ret (pv 2))))))
abbrev s_law_rows_of : Stmt := (topS 36)
theorem sc_law_rows_of : FnScope N_law_rows_of ["_law_state", "_law_size", "_law_spread"] (defScope s_law_rows_of) := ⟨rfl, rfl, rfl, by decide +kernel, rfl, by decide +kernel, by decide +kernel⟩
theorem ok_law_rows_of (D_law_next : Dfn P w K mg base 2 "_law_next" ["_law_state", "_law_many"] (sp_law_next K)) (m_range : mg "range" = none) (m_str : mg "str" = none) {f : Addr} {fd : FuncData} (F : Fun K "_law_rows_of" "_law_rows_of" s_law_rows_of f fd) : FnOk P w K mg base CX0 3 f fd ["_law_state", "_law_size", "_law_spread"] (sp_law_rows_of K) := by
  have sc := sc_law_rows_of
  refine F.ok sc_law_rows_of (fun vs H Q E h => ((w_law_rows_of) vs H Q E h).1) (fun cdv A outer s H vs Q E hr h => ⟨T_law_rows_of K, ?_, ((w_law_rows_of) vs H Q E h).2⟩)
  exact (pss_cons (ps_set (i := 3) sc.nd rfl (by first | exact Or.inl rfl | exact Or.inr rfl) (pe_lst pa_nil))
      (pss_cons (ps_for PassesOwn.never rfl (pi_range1 (by rfl) m_range (pa_cons (z_call D_law_next (hr.mono (by decide)) (by rfl) (pa_cons (pv 0) (pa_cons pe_int pa_nil))) pa_nil)) (pg_name (i := 4) sc.nd rfl (by first | exact Or.inl rfl | exact Or.inr rfl)) (pss_cons (by first | exact (ps_setLc (i := 5) (own := [("_law_j", 6)]) (g := (gName 6)) (tt := tYes) rfl sc.nd rfl rfl (sw_true rfl rfl rfl (by decide +kernel)) (pi_range1 (by rfl) m_range (pa_cons (pv 1) pa_nil)) (blkOk_by (N := N_law_rows_of) (sc := defScope s_law_rows_of) (by decide +kernel)) (fun _ _ _ _ _ => (pg_name (i := 6) sc.nd rfl (by first | exact Or.inl rfl | exact Or.inr rfl))) (fun _ _ _ _ _ => pts_nil) (fun _ _ _ _ _ => (z_call D_law_next (hr.mono (by decide)) (by rfl) (pa_cons (pv 0) (pa_cons (pv 2) pa_nil))))) | exact (ps_set (i := 5) sc.nd rfl (Or.inr rfl) (pe_lc (own := [("_law_j", 6)]) (g := (gName 6)) (tt := tYes) rfl sc.nd (pi_range1 (by rfl) m_range (pa_cons (pv 1) pa_nil)) (blkOk_by (N := N_law_rows_of) (sc := defScope s_law_rows_of) (by decide +kernel)) (fun _ _ _ _ _ => (pg_name (i := 6) sc.nd rfl (by first | exact Or.inl rfl | exact Or.inr rfl))) (fun _ _ _ _ _ => pts_nil) (fun _ _ _ _ _ => (z_call D_law_next (hr.mono (by decide)) (by rfl) (pa_cons (pv 0) (pa_cons (pv 2) pa_nil)))))))
      (pss_one (ps_expr (pe_bm PySem.F.plainAttrs_list PySem.F.slot_list_append PySem.F.type_list_append mt_append (pv 3) (pa_cons (pe_tup (pa_cons (pe_op op_uAdd pe_str (pe_callTy call_uStr (by rfl) m_str (by decide +kernel) (pa_cons (pv 4) pa_nil))) (pa_cons (pv 5) pa_nil))) pa_nil))))))
      (pss_one (ps_ret (pv 3)))))
abbrev s_Record_init : Stmt := (inClass (topS 21) 0)
theorem sc_Record_init : FnScope N_Record_init ["self", "name", "vector", "fields", "words"] (defScope s_Record_init) := ⟨rfl, rfl, rfl, by decide +kernel, rfl, by decide +kernel, by decide +kernel⟩
theorem ok_Record_init (m_tuple : mg "tuple" = none) {f : Addr} {fd : FuncData} (F : Fun K "__init__" "Record.__init__" s_Record_init f fd) : FnOk P w K mg base CX0 1 f fd ["self", "name", "vector", "fields", "words"] (sp_Record_init K c) := by
  have sc := sc_Record_init
  refine F.ok sc_Record_init (fun vs H Q E h => ((w_Record_init (c := c)) vs H Q E h).1) (fun cdv A outer s H vs Q E hr h => ⟨T_Record_init K, ?_, ((w_Record_init (c := c)) vs H Q E h).2⟩)
  exact (pss_cons (ps_fld (pv 0) (pv 1) rfl)
      (pss_cons (ps_fld (pv 0) (pe_callTy call_uTuple (by rfl) m_tuple (by decide +kernel) (pa_cons (pv 2) pa_nil)) rfl)
      (pss_cons (ps_fld (pv 0) (pe_callTy call_uTuple (by rfl) m_tuple (by decide +kernel) (pa_cons (pe_lc (own := [("field", 5), ("worth", 6)]) (g := (gTup K 2 (gCons (gName 5) (gCons (gName 6) gNil)))) (tt := tYes) rfl sc.nd (pi_sq (pv 3)) (blkOk_by (N := N_Record_init) (sc := defScope s_Record_init) (by decide +kernel)) (fun _ _ _ _ _ => (pg_tup rfl (pgs_cons (pg_name (i := 5) sc.nd rfl (by first | exact Or.inl rfl | exact Or.inr rfl)) (pgs_cons (pg_name (i := 6) sc.nd rfl (by first | exact Or.inl rfl | exact Or.inr rfl)) pgs_nil)))) (fun _ _ _ _ _ => pts_nil) (fun _ _ _ _ _ => (pe_tup (pa_cons (pv 5) (pa_cons (pv 6) pa_nil))))) pa_nil)) rfl)
      (pss_one (ps_fld (pv 0) (pe_callTy call_uTuple (by rfl) m_tuple (by decide +kernel) (pa_cons (pe_lc (own := [("word", 7), ("count", 8)]) (g := (gTup K 2 (gCons (gName 7) (gCons (gName 8) gNil)))) (tt := tYes) rfl sc.nd (pi_sq (pv 4)) (blkOk_by (N := N_Record_init) (sc := defScope s_Record_init) (by decide +kernel)) (fun _ _ _ _ _ => (pg_tup rfl (pgs_cons (pg_name (i := 7) sc.nd rfl (by first | exact Or.inl rfl | exact Or.inr rfl)) (pgs_cons (pg_name (i := 8) sc.nd rfl (by first | exact Or.inl rfl | exact Or.inr rfl)) pgs_nil)))) (fun _ _ _ _ _ => pts_nil) (fun _ _ _ _ _ => (pe_tup (pa_cons (pv 7) (pa_cons (pv 8) pa_nil))))) pa_nil)) rfl)))))
abbrev s_check_rule : Stmt := (topS 16)
theorem sc_check_rule : FnScope N_check_rule ["positive", "other"] (defScope s_check_rule) := ⟨rfl, rfl, rfl, by decide +kernel, rfl, by decide +kernel, by decide +kernel⟩
theorem ok_check_rule (E_InvalidRule : ExcF K mg c "InvalidRule") {f : Addr} {fd : FuncData} (F : Fun K "check_rule" "check_rule" s_check_rule f fd) : FnOk P w K mg base (L2.CX P w) 1 f fd ["positive", "other"] (sp_check_rule K c) := by
  have sc := sc_check_rule
  refine F.okX sc_check_rule (fun vs H Q E h => ((w_check_rule (c := c)) vs H Q E h).1) (fun cdv A outer s H vs Q E hr h => ⟨T_check_rule K c (fun cls d _ H => E cls d H), ?_, ((w_check_rule (c := c)) vs H Q E h).2⟩)
  exact (pss_cons (ps_for (passes_of rfl) rfl (pi_sq (pv 0)) (pg_name (i := 2) sc.nd rfl (by first | exact Or.inl rfl | exact Or.inr rfl)) (pss_one (ps_if (pt_cmpR (op_uLt hr.units) (pv 2) pe_int (nomark _)) (pss_one (z_raise rfl E_InvalidRule (takes_of rfl rfl rfl rfl) (by rfl))) pss_nil)))
      (pss_one (ps_for (passes_of rfl) rfl (pi_sq (pv 1)) (pg_name (i := 2) sc.nd rfl (by first | exact Or.inl rfl | exact Or.inr rfl)) (pss_one (ps_if (pt_cmpR (op_uLt hr.units) (pv 2) pe_int (nomark _)) (pss_one (z_raise rfl E_InvalidRule (takes_of rfl rfl rfl rfl) (by rfl))) pss_nil)))))
abbrev s_Codes_init : Stmt := (inClass (topS 17) 0)
theorem sc_Codes_init : FnScope N_Codes_init ["self", "parts", "centres", "rounds"] (defScope s_Codes_init) := ⟨rfl, rfl, rfl, by decide +kernel, rfl, by decide +kernel, by decide +kernel⟩
theorem ok_Codes_init (D_check_rule : DfnX P w K mg base 1 "check_rule" ["positive", "other"] (sp_check_rule K c)) {f : Addr} {fd : FuncData} (F : Fun K "__init__" "Codes.__init__" s_Codes_init f fd) : FnOk P w K mg base (L2.CX P w) 2 f fd ["self", "parts", "centres", "rounds"] (sp_Codes_init K c) := by
  have sc := sc_Codes_init
  refine F.okX sc_Codes_init (fun vs H Q E h => ((w_Codes_init (c := c)) vs H Q E h).1) (fun cdv A outer s H vs Q E hr h => ⟨T_Codes_init K c (fun cls d _ H => E cls d H), ?_, ((w_Codes_init (c := c)) vs H Q E h).2⟩)
  exact (pss_cons (ps_expr (z_callX D_check_rule (passW (takes_of rfl rfl rfl rfl)) (hr.mono (by decide)) (by rfl) (pa_cons (pe_lst (pa_cons (pv 1) (pa_cons (pv 2) pa_nil))) (pa_cons (pe_lst (pa_cons (pv 3) pa_nil)) pa_nil))))
      (pss_cons (ps_fld (pv 0) (pv 1) rfl)
      (pss_cons (ps_fld (pv 0) (pv 2) rfl)
      (pss_one (ps_fld (pv 0) (pv 3) rfl)))))
abbrev s_distance : Stmt := (topS 2)
theorem sc_distance : FnScope N_distance ["a", "b"] (defScope s_distance) := ⟨rfl, rfl, rfl, by decide +kernel, rfl, by decide +kernel, by decide +kernel⟩
theorem ok_distance (m_zip : mg "zip" = none) {f : Addr} {fd : FuncData} (F : Fun K "distance" "distance" s_distance f fd) : FnOk P w K mg base CX0 1 f fd ["a", "b"] (sp_distance K) := by
  have sc := sc_distance
  refine F.ok sc_distance (fun vs H Q E h => ((w_distance) vs H Q E h).1) (fun cdv A outer s H vs Q E hr h => ⟨T_distance K, ?_, ((w_distance) vs H Q E h).2⟩)
  exact (pss_cons (ps_set (i := 2) sc.nd rfl (by first | exact Or.inl rfl | exact Or.inr rfl) pe_int)
      (pss_cons (ps_for PassesOwn.never rfl (RZ.pi_zipA (by rfl) m_zip (pa_cons (pv 0) (pa_cons (pv 1) pa_nil))) (pg_tup rfl (pgs_cons (pg_name (i := 3) sc.nd rfl (by first | exact Or.inl rfl | exact Or.inr rfl)) (pgs_cons (pg_name (i := 4) sc.nd rfl (by first | exact Or.inl rfl | exact Or.inr rfl)) pgs_nil))) (pss_one (ps_set (i := 2) sc.nd rfl (by first | exact Or.inl rfl | exact Or.inr rfl) (pe_op op_uAdd (pv 2) (pe_op op_uMul (pe_op op_uSub (pv 3) (pv 4)) (pe_op op_uSub (pv 3) (pv 4)))))))
      (pss_one (ps_ret (pv 2)))))
abbrev s_nearest : Stmt := (topS 7)
theorem sc_nearest : FnScope N_nearest ["centres", "vector"] (defScope s_nearest) := ⟨rfl, rfl, rfl, by decide +kernel, rfl, by decide +kernel, by decide +kernel⟩
theorem ok_nearest (D_distance : Dfn P w K mg base 1 "distance" ["a", "b"] (sp_distance K)) (m_len : mg "len" = none) (m_range : mg "range" = none) {f : Addr} {fd : FuncData} (F : Fun K "nearest" "nearest" s_nearest f fd) : FnOk P w K mg base CX0 2 f fd ["centres", "vector"] (sp_nearest K) := by
  have sc := sc_nearest
  refine F.ok sc_nearest (fun vs H Q E h => ((w_nearest) vs H Q E h).1) (fun cdv A outer s H vs Q E hr h => ⟨T_nearest K, ?_, ((w_nearest) vs H Q E h).2⟩)
  exact (pss_cons (ps_set (i := 2) sc.nd rfl (by first | exact Or.inl rfl | exact Or.inr rfl) pe_int)
      (pss_cons (ps_for PassesOwn.never rfl (pi_range2 (by rfl) m_range (pa_cons pe_int (pa_cons (pe_callB call_uLen (by rfl) m_len (by decide +kernel) (pa_cons (pv 0) pa_nil)) pa_nil))) (pg_name (i := 3) sc.nd rfl (by first | exact Or.inl rfl | exact Or.inr rfl)) (pss_one (ps_if (pt_cmpR (op_uLt hr.units) (z_call D_distance (hr.mono (by decide)) (by rfl) (pa_cons (pe_ix ix_uIx (pv 0) (pv 3) (fun _ _ => rfl)) (pa_cons (pv 1) pa_nil))) (z_call D_distance (hr.mono (by decide)) (by rfl) (pa_cons (pe_ix ix_uIx (pv 0) (pv 2) (fun _ _ => rfl)) (pa_cons (pv 1) pa_nil))) (nomark _)) (pss_one (ps_set (i := 2) sc.nd rfl (by first | exact Or.inl rfl | exact Or.inr rfl) (pv 3))) pss_nil)))
      (pss_one (ps_ret (pv 2)))))
abbrev s_mean : Stmt := (topS 8)
theorem sc_mean : FnScope N_mean ["vectors"] (defScope s_mean) := ⟨rfl, rfl, rfl, by decide +kernel, rfl, by decide +kernel, by decide +kernel⟩
theorem ok_mean (m_len : mg "len" = none) (m_range : mg "range" = none) (m_sum : mg "sum" = none) (m_tuple : mg "tuple" = none) {f : Addr} {fd : FuncData} (F : Fun K "mean" "mean" s_mean f fd) : FnOk P w K mg base CX0 1 f fd ["vectors"] (sp_mean K) := by
  have sc := sc_mean
  refine F.ok sc_mean (fun vs H Q E h => ((w_mean) vs H Q E h).1) (fun cdv A outer s H vs Q E hr h => ⟨T_mean K, ?_, ((w_mean) vs H Q E h).2⟩)
  exact (pss_one (ps_ret (pe_callTy call_uTuple (by rfl) m_tuple (by decide +kernel) (pa_cons (pe_lc (own := [("k", 2)]) (g := (gName 2)) (tt := tYes) rfl sc.nd (pi_range1 (by rfl) m_range (pa_cons (pe_callB call_uLen (by rfl) m_len (by decide +kernel) (pa_cons (pe_ix ix_uIx (pv 0) pe_int (fun _ _ => rfl)) pa_nil)) pa_nil)) (blkOk_by (N := N_mean) (sc := defScope s_mean) (by decide +kernel)) (fun _ _ _ _ _ => (pg_name (i := 2) sc.nd rfl (by first | exact Or.inl rfl | exact Or.inr rfl))) (fun _ _ _ _ _ => pts_nil) (fun _ _ _ _ _ => (pe_op op_uDiv (pe_callB (cr_sum rfl) (by rfl) m_sum (by decide +kernel) (pa_cons (pe_lc (own := [("vector", 1)]) (g := (gName 1)) (tt := tYes) rfl sc.nd (pi_sq (pv 0)) (blkOk_by (by with_unfolding_all rfl)) (fun _ _ _ _ _ => (pg_name (i := 1) sc.nd rfl (by first | exact Or.inl rfl | exact Or.inr rfl))) (fun _ _ _ _ _ => pts_nil) (fun _ _ _ _ _ => (pe_ix ix_uIx (pv 1) (pv 2) (fun _ _ => rfl)))) pa_nil)) (pe_callB call_uLen (by rfl) m_len (by decide +kernel) (pa_cons (pv 0) pa_nil))))) pa_nil))))
abbrev s_move : Stmt := (topS 9)
theorem sc_move : FnScope N_move ["centres", "vectors"] (defScope s_move) := ⟨rfl, rfl, rfl, by decide +kernel, rfl, by decide +kernel, by decide +kernel⟩
theorem ok_move (D_nearest : Dfn P w K mg base 2 "nearest" ["centres", "vector"] (sp_nearest K)) (D_mean : Dfn P w K mg base 1 "mean" ["vectors"] (sp_mean K)) (m_enumerate : mg "enumerate" = none) (m_zip : mg "zip" = none) (m_len : mg "len" = none) {f : Addr} {fd : FuncData} (F : Fun K "move" "move" s_move f fd) : FnOk P w K mg base CX0 3 f fd ["centres", "vectors"] (sp_move K) := by
  have sc := sc_move
  refine F.ok sc_move (fun vs H Q E h => ((w_move) vs H Q E h).1) (fun cdv A outer s H vs Q E hr h => ⟨T_move K, ?_, ((w_move) vs H Q E h).2⟩)
  exact (pss_cons (by first | exact (ps_setLc (i := 2) (own := [("vector", 3)]) (g := (gName 3)) (tt := tYes) rfl sc.nd rfl rfl (sw_true rfl rfl rfl (by decide +kernel)) (pi_sq (pv 1)) (blkOk_by (N := N_move) (sc := defScope s_move) (by decide +kernel)) (fun _ _ _ _ _ => (pg_name (i := 3) sc.nd rfl (by first | exact Or.inl rfl | exact Or.inr rfl))) (fun _ _ _ _ _ => pts_nil) (fun _ _ _ _ _ => (z_call D_nearest (hr.mono (by decide)) (by rfl) (pa_cons (pv 0) (pa_cons (pv 3) pa_nil))))) | exact (ps_set (i := 2) sc.nd rfl (Or.inr rfl) (pe_lc (own := [("vector", 3)]) (g := (gName 3)) (tt := tYes) rfl sc.nd (pi_sq (pv 1)) (blkOk_by (N := N_move) (sc := defScope s_move) (by decide +kernel)) (fun _ _ _ _ _ => (pg_name (i := 3) sc.nd rfl (by first | exact Or.inl rfl | exact Or.inr rfl))) (fun _ _ _ _ _ => pts_nil) (fun _ _ _ _ _ => (z_call D_nearest (hr.mono (by decide)) (by rfl) (pa_cons (pv 0) (pa_cons (pv 3) pa_nil)))))))
      (pss_cons (ps_set (i := 4) sc.nd rfl (by first | exact Or.inl rfl | exact Or.inr rfl) (pe_lst pa_nil))
      (pss_cons (ps_for PassesOwn.never rfl (pi_enumA (by rfl) m_enumerate (pa_cons (pv 0) pa_nil)) (pg_tup rfl (pgs_cons (pg_name (i := 5) sc.nd rfl (by first | exact Or.inl rfl | exact Or.inr rfl)) (pgs_cons (pg_name (i := 6) sc.nd rfl (by first | exact Or.inl rfl | exact Or.inr rfl)) pgs_nil))) (pss_cons (by first | exact (ps_setLc (i := 7) (own := [("vector", 3), ("at", 8)]) (g := (gTup K 2 (gCons (gName 3) (gCons (gName 8) gNil)))) (tt := (tTest (tOp (uEq K) (tVar 8) (tVar 5)))) rfl sc.nd rfl rfl (sw_true rfl rfl rfl (by decide +kernel)) (RZ.pi_zipA (by rfl) m_zip (pa_cons (pv 1) (pa_cons (pv 2) pa_nil))) (blkOk_by (N := N_move) (sc := defScope s_move) (by decide +kernel)) (fun _ _ _ _ _ => (pg_tup rfl (pgs_cons (pg_name (i := 3) sc.nd rfl (by first | exact Or.inl rfl | exact Or.inr rfl)) (pgs_cons (pg_name (i := 8) sc.nd rfl (by first | exact Or.inl rfl | exact Or.inr rfl)) pgs_nil)))) (fun _ _ _ _ _ => (pts_one (pt_cmpR (op_uEq hr.units) (pv 8) (pv 5) (nomark _)))) (fun _ _ _ _ _ => (pv 3))) | exact (ps_set (i := 7) sc.nd rfl (Or.inr rfl) (pe_lc (own := [("vector", 3), ("at", 8)]) (g := (gTup K 2 (gCons (gName 3) (gCons (gName 8) gNil)))) (tt := (tTest (tOp (uEq K) (tVar 8) (tVar 5)))) rfl sc.nd (RZ.pi_zipA (by rfl) m_zip (pa_cons (pv 1) (pa_cons (pv 2) pa_nil))) (blkOk_by (N := N_move) (sc := defScope s_move) (by decide +kernel)) (fun _ _ _ _ _ => (pg_tup rfl (pgs_cons (pg_name (i := 3) sc.nd rfl (by first | exact Or.inl rfl | exact Or.inr rfl)) (pgs_cons (pg_name (i := 8) sc.nd rfl (by first | exact Or.inl rfl | exact Or.inr rfl)) pgs_nil)))) (fun _ _ _ _ _ => (pts_one (pt_cmpR (op_uEq hr.units) (pv 8) (pv 5) (nomark _)))) (fun _ _ _ _ _ => (pv 3)))))
      (pss_one (ps_expr (pe_bm PySem.F.plainAttrs_list PySem.F.slot_list_append PySem.F.type_list_append mt_append (pv 4) (pa_cons (pe_ifExp (pt_cmpR op_uGt (pe_callB call_uLen (by rfl) m_len (by decide +kernel) (pa_cons (pv 7) pa_nil)) pe_int (nomark _)) (z_call D_mean (hr.mono (by decide)) (by rfl) (pa_cons (pv 7) pa_nil)) (pv 6)) pa_nil))))))
      (pss_one (ps_ret (pv 4))))))
abbrev s_train : Stmt := (topS 10)
theorem sc_train : FnScope N_train ["vectors", "number", "rounds"] (defScope s_train) := ⟨rfl, rfl, rfl, by decide +kernel, rfl, by decide +kernel, by decide +kernel⟩
theorem ok_train (D_move : Dfn P w K mg base 3 "move" ["centres", "vectors"] (sp_move K)) (m_len : mg "len" = none) (m_min : mg "min" = none) (m_range : mg "range" = none) (m_tuple : mg "tuple" = none) {f : Addr} {fd : FuncData} (F : Fun K "train" "train" s_train f fd) : FnOk P w K mg base CX0 4 f fd ["vectors", "number", "rounds"] (sp_train K) := by
  have sc := sc_train
  refine F.ok sc_train (fun vs H Q E h => ((w_train) vs H Q E h).1) (fun cdv A outer s H vs Q E hr h => ⟨T_train K, ?_, ((w_train) vs H Q E h).2⟩)
  exact (pss_cons (ps_set (i := 3) sc.nd rfl (by first | exact Or.inl rfl | exact Or.inr rfl) (pe_callB (call_uMin rfl) (by rfl) m_min (by decide +kernel) (pa_cons (pv 1) (pa_cons (pe_callB call_uLen (by rfl) m_len (by decide +kernel) (pa_cons (pv 0) pa_nil)) pa_nil))))
      (pss_cons (by first | exact (ps_setLc (i := 4) (own := [("i", 5)]) (g := (gName 5)) (tt := tYes) rfl sc.nd rfl rfl (sw_true rfl rfl rfl (by decide +kernel)) (pi_range1 (by rfl) m_range (pa_cons (pv 3) pa_nil)) (blkOk_by (N := N_train) (sc := defScope s_train) (by decide +kernel)) (fun _ _ _ _ _ => (pg_name (i := 5) sc.nd rfl (by first | exact Or.inl rfl | exact Or.inr rfl))) (fun _ _ _ _ _ => pts_nil) (fun _ _ _ _ _ => (pe_callTy call_uTuple (by rfl) m_tuple (by decide +kernel) (pa_cons (pe_ix ix_uIx (pv 0) (pe_op op_uDiv (pe_op op_uMul (pv 5) (pe_callB call_uLen (by rfl) m_len (by decide +kernel) (pa_cons (pv 0) pa_nil))) (pv 3)) (fun _ _ => rfl)) pa_nil)))) | exact (ps_set (i := 4) sc.nd rfl (Or.inr rfl) (pe_lc (own := [("i", 5)]) (g := (gName 5)) (tt := tYes) rfl sc.nd (pi_range1 (by rfl) m_range (pa_cons (pv 3) pa_nil)) (blkOk_by (N := N_train) (sc := defScope s_train) (by decide +kernel)) (fun _ _ _ _ _ => (pg_name (i := 5) sc.nd rfl (by first | exact Or.inl rfl | exact Or.inr rfl))) (fun _ _ _ _ _ => pts_nil) (fun _ _ _ _ _ => (pe_callTy call_uTuple (by rfl) m_tuple (by decide +kernel) (pa_cons (pe_ix ix_uIx (pv 0) (pe_op op_uDiv (pe_op op_uMul (pv 5) (pe_callB call_uLen (by rfl) m_len (by decide +kernel) (pa_cons (pv 0) pa_nil))) (pv 3)) (fun _ _ => rfl)) pa_nil))))))
      (pss_cut (ps_if (pt_cmpR op_uGt (pv 3) pe_int (nomark _)) (pss_one (ps_for PassesOwn.never rfl (pi_range1 (by rfl) m_range (pa_cons (pv 2) pa_nil)) (pg_name (i := 6) sc.nd rfl (by first | exact Or.inl rfl | exact Or.inr rfl)) (pss_one (ps_set (i := 4) sc.nd rfl (by first | exact Or.inl rfl | exact Or.inr rfl) (z_call D_move (hr.mono (by decide)) (by rfl) (pa_cons (pv 4) (pa_cons (pv 0) pa_nil))))))) pss_nil)
      (pss_one (ps_ret (pv 4))))))
abbrev s_Codes_books : Stmt := (inClass (topS 17) 1)
theorem sc_Codes_books : FnScope N_Codes_books ["self", "schema", "vectors"] (defScope s_Codes_books) := ⟨rfl, rfl, rfl, by decide +kernel, rfl, by decide +kernel, by decide +kernel⟩
theorem ok_Codes_books (D_train : Dfn P w K mg base 4 "train" ["vectors", "number", "rounds"] (sp_train K)) (m_range : mg "range" = none) {f : Addr} {fd : FuncData} (F : Fun K "books" "Codes.books" s_Codes_books f fd) : FnOk P w K mg base CX0 5 f fd ["self", "schema", "vectors"] (sp_Codes_books K c) := by
  have sc := sc_Codes_books
  refine F.ok sc_Codes_books (fun vs H Q E h => ((w_Codes_books (c := c)) vs H Q E h).1) (fun cdv A outer s H vs Q E hr h => ⟨T_Codes_books K, ?_, ((w_Codes_books (c := c)) vs H Q E h).2⟩)
  exact (pss_cons (ps_set (i := 3) sc.nd rfl (by first | exact Or.inl rfl | exact Or.inr rfl) (pe_lst pa_nil))
      (pss_cons (ps_for PassesOwn.never rfl (pi_range1 (by rfl) m_range (pa_cons (pe_fld (pv 0) rfl) pa_nil)) (pg_name (i := 4) sc.nd rfl (by first | exact Or.inl rfl | exact Or.inr rfl)) (pss_cons (ps_set (i := 5) sc.nd rfl (by first | exact Or.inl rfl | exact Or.inr rfl) (pe_op op_uDiv (pe_op op_uMul (pv 4) (pe_fld (pv 1) rfl)) (pe_fld (pv 0) rfl)))
      (pss_cons (ps_set (i := 6) sc.nd rfl (by first | exact Or.inl rfl | exact Or.inr rfl) (pe_op op_uDiv (pe_op op_uMul (pe_op op_uAdd (pv 4) pe_int) (pe_fld (pv 1) rfl)) (pe_fld (pv 0) rfl)))
      (pss_cons (by first | exact (ps_setLc (i := 7) (own := [("vector", 8)]) (g := (gName 8)) (tt := tYes) rfl sc.nd rfl rfl (sw_true rfl rfl rfl (by decide +kernel)) (pi_sq (pv 2)) (blkOk_by (N := N_Codes_books) (sc := defScope s_Codes_books) (by decide +kernel)) (fun _ _ _ _ _ => (pg_name (i := 8) sc.nd rfl (by first | exact Or.inl rfl | exact Or.inr rfl))) (fun _ _ _ _ _ => pts_nil) (fun _ _ _ _ _ => (pe_slice sl_uSl (pv 8) (po_some (pv 5)) (po_some (pv 6))))) | exact (ps_set (i := 7) sc.nd rfl (Or.inr rfl) (pe_lc (own := [("vector", 8)]) (g := (gName 8)) (tt := tYes) rfl sc.nd (pi_sq (pv 2)) (blkOk_by (N := N_Codes_books) (sc := defScope s_Codes_books) (by decide +kernel)) (fun _ _ _ _ _ => (pg_name (i := 8) sc.nd rfl (by first | exact Or.inl rfl | exact Or.inr rfl))) (fun _ _ _ _ _ => pts_nil) (fun _ _ _ _ _ => (pe_slice sl_uSl (pv 8) (po_some (pv 5)) (po_some (pv 6)))))))
      (pss_one (ps_expr (pe_bm PySem.F.plainAttrs_list PySem.F.slot_list_append PySem.F.type_list_append mt_append (pv 3) (pa_cons (pe_tup (pa_cons (pv 5) (pa_cons (pv 6) (pa_cons (z_call D_train (hr.mono (by decide)) (by rfl) (pa_cons (pv 7) (pa_cons (pe_fld (pv 0) rfl) (pa_cons (pe_fld (pv 0) rfl) pa_nil)))) pa_nil)))) pa_nil))))))))
      (pss_one (ps_ret (pv 3)))))
abbrev s_Sketch_init : Stmt := (inClass (topS 4) 0)
theorem sc_Sketch_init : FnScope N_Sketch_init ["self", "parent", "centres", "cells"] (defScope s_Sketch_init) := ⟨rfl, rfl, rfl, by decide +kernel, rfl, by decide +kernel, by decide +kernel⟩
theorem ok_Sketch_init (m_tuple : mg "tuple" = none) {f : Addr} {fd : FuncData} (F : Fun K "__init__" "Sketch.__init__" s_Sketch_init f fd) : FnOk P w K mg base CX0 1 f fd ["self", "parent", "centres", "cells"] (sp_Sketch_init K c) := by
  have sc := sc_Sketch_init
  refine F.ok sc_Sketch_init (fun vs H Q E h => ((w_Sketch_init (c := c)) vs H Q E h).1) (fun cdv A outer s H vs Q E hr h => ⟨T_Sketch_init K, ?_, ((w_Sketch_init (c := c)) vs H Q E h).2⟩)
  exact (pss_cons (ps_fld (pv 0) (pv 1) rfl)
      (pss_cons (ps_fld (pv 0) (pe_callTy call_uTuple (by rfl) m_tuple (by decide +kernel) (pa_cons (pe_lc (own := [("start", 4), ("centre", 5)]) (g := (gTup K 2 (gCons (gName 4) (gCons (gName 5) gNil)))) (tt := tYes) rfl sc.nd (pi_sq (pv 2)) (blkOk_by (N := N_Sketch_init) (sc := defScope s_Sketch_init) (by decide +kernel)) (fun _ _ _ _ _ => (pg_tup rfl (pgs_cons (pg_name (i := 4) sc.nd rfl (by first | exact Or.inl rfl | exact Or.inr rfl)) (pgs_cons (pg_name (i := 5) sc.nd rfl (by first | exact Or.inl rfl | exact Or.inr rfl)) pgs_nil)))) (fun _ _ _ _ _ => pts_nil) (fun _ _ _ _ _ => (pe_tup (pa_cons (pv 4) (pa_cons (pe_callTy call_uTuple (by rfl) m_tuple (by decide +kernel) (pa_cons (pv 5) pa_nil)) pa_nil))))) pa_nil)) rfl)
      (pss_one (ps_fld (pv 0) (pe_callTy call_uTuple (by rfl) m_tuple (by decide +kernel) (pa_cons (pe_lc (own := [("near", 6), ("rival", 7)]) (g := (gTup K 2 (gCons (gName 6) (gCons (gName 7) gNil)))) (tt := tYes) rfl sc.nd (pi_sq (pv 3)) (blkOk_by (N := N_Sketch_init) (sc := defScope s_Sketch_init) (by decide +kernel)) (fun _ _ _ _ _ => (pg_tup rfl (pgs_cons (pg_name (i := 6) sc.nd rfl (by first | exact Or.inl rfl | exact Or.inr rfl)) (pgs_cons (pg_name (i := 7) sc.nd rfl (by first | exact Or.inl rfl | exact Or.inr rfl)) pgs_nil)))) (fun _ _ _ _ _ => pts_nil) (fun _ _ _ _ _ => (pe_tup (pa_cons (pe_callTy call_uTuple (by rfl) m_tuple (by decide +kernel) (pa_cons (pv 6) pa_nil)) (pa_cons (pe_callTy call_uTuple (by rfl) m_tuple (by decide +kernel) (pa_cons (pv 7) pa_nil)) pa_nil))))) pa_nil)) rfl))))
abbrev s_Layout_init : Stmt := (inClass (topS 5) 0)
theorem sc_Layout_init : FnScope N_Layout_init ["self", "sketches", "leaves"] (defScope s_Layout_init) := ⟨rfl, rfl, rfl, by decide +kernel, rfl, by decide +kernel, by decide +kernel⟩
theorem ok_Layout_init (m_tuple : mg "tuple" = none) {f : Addr} {fd : FuncData} (F : Fun K "__init__" "Layout.__init__" s_Layout_init f fd) : FnOk P w K mg base CX0 1 f fd ["self", "sketches", "leaves"] (sp_Layout_init K c) := by
  have sc := sc_Layout_init
  refine F.ok sc_Layout_init (fun vs H Q E h => ((w_Layout_init (c := c)) vs H Q E h).1) (fun cdv A outer s H vs Q E hr h => ⟨T_Layout_init K, ?_, ((w_Layout_init (c := c)) vs H Q E h).2⟩)
  exact (pss_cons (ps_fld (pv 0) (pe_callTy call_uTuple (by rfl) m_tuple (by decide +kernel) (pa_cons (pv 1) pa_nil)) rfl)
      (pss_one (ps_fld (pv 0) (pe_callTy call_uTuple (by rfl) m_tuple (by decide +kernel) (pa_cons (pv 2) pa_nil)) rfl)))
abbrev s_Codes_layout : Stmt := (inClass (topS 17) 2)
theorem sc_Codes_layout : FnScope N_Codes_layout ["self", "schema", "records"] (defScope s_Codes_layout) := ⟨rfl, rfl, rfl, by decide +kernel, rfl, by decide +kernel, by decide +kernel⟩
theorem ok_Codes_layout (C_Codes : ClsF K mg c "Codes" ["parts", "centres", "rounds"]) (C_Sketch : ClsF K mg c "Sketch" ["parent", "centres", "cells"]) (C_Layout : ClsF K mg c "Layout" ["sketches", "leaves"]) (M_Codes_books : Mth P w K mg base 5 (c.cls "Codes") "books" ["self", "schema", "vectors"] (sp_Codes_books K c)) (D_nearest : Dfn P w K mg base 2 "nearest" ["centres", "vector"] (sp_nearest K)) (K_Sketch_init_1_centres : MkrK CX0 P w K mg base 1 (c.cls "Sketch") ["self", "parent", "centres", "cells"] (sp_Sketch_init K c) 1 ["centres"] [.e] [(true, 0), (false, 0)]) (K_Layout_init : Mkr P w K mg base 1 (c.cls "Layout") ["self", "sketches", "leaves"] (sp_Layout_init K c)) (m_zip : mg "zip" = none) {f : Addr} {fd : FuncData} (F : Fun K "layout" "Codes.layout" s_Codes_layout f fd) : FnOk P w K mg base CX0 6 f fd ["self", "schema", "records"] (sp_Codes_layout K c) := by
  have sc := sc_Codes_layout
  refine F.ok sc_Codes_layout (fun vs H Q E h => ((w_Codes_layout (c := c)) vs H Q E h).1) (fun cdv A outer s H vs Q E hr h => ⟨T_Codes_layout K c, ?_, ((w_Codes_layout (c := c)) vs H Q E h).2⟩)
  exact (pss_cons (by first | exact (ps_setLc (i := 3) (own := [("record", 4)]) (g := (gName 4)) (tt := tYes) rfl sc.nd rfl rfl (sw_true rfl rfl rfl (by decide +kernel)) (pi_sq (pv 2)) (blkOk_by (N := N_Codes_layout) (sc := defScope s_Codes_layout) (by decide +kernel)) (fun _ _ _ _ _ => (pg_name (i := 4) sc.nd rfl (by first | exact Or.inl rfl | exact Or.inr rfl))) (fun _ _ _ _ _ => pts_nil) (fun _ _ _ _ _ => (pe_fld (pv 4) rfl))) | exact (ps_set (i := 3) sc.nd rfl (Or.inr rfl) (pe_lc (own := [("record", 4)]) (g := (gName 4)) (tt := tYes) rfl sc.nd (pi_sq (pv 2)) (blkOk_by (N := N_Codes_layout) (sc := defScope s_Codes_layout) (by decide +kernel)) (fun _ _ _ _ _ => (pg_name (i := 4) sc.nd rfl (by first | exact Or.inl rfl | exact Or.inr rfl))) (fun _ _ _ _ _ => pts_nil) (fun _ _ _ _ _ => (pe_fld (pv 4) rfl)))))
      (pss_cons (ps_set (i := 5) sc.nd rfl (by first | exact Or.inl rfl | exact Or.inr rfl) (z_meth (pv 0) C_Codes M_Codes_books (hr.mono (by decide)) (pa_cons (pv 1) (pa_cons (pv 3) pa_nil))))
      (pss_cons (ps_set (i := 6) sc.nd rfl (by first | exact Or.inl rfl | exact Or.inr rfl) (pe_lst pa_nil))
      (pss_cons (ps_set (i := 7) sc.nd rfl (by first | exact Or.inl rfl | exact Or.inr rfl) (pe_lst pa_nil))
      (pss_cons (ps_set (i := 8) sc.nd rfl (by first | exact Or.inl rfl | exact Or.inr rfl) (pe_lst pa_nil))
      (pss_cons (ps_for PassesOwn.never rfl (pi_sq (pv 3)) (pg_name (i := 9) sc.nd rfl (by first | exact Or.inl rfl | exact Or.inr rfl)) (pss_cons (by first | exact (ps_setLc (i := 10) (own := [("start", 11), ("stop", 12), ("centres", 13)]) (g := (gTup K 3 (gCons (gName 11) (gCons (gName 12) (gCons (gName 13) gNil))))) (tt := tYes) rfl sc.nd rfl rfl (sw_true rfl rfl rfl (by decide +kernel)) (pi_sq (pv 5)) (blkOk_by (N := N_Codes_layout) (sc := defScope s_Codes_layout) (by decide +kernel)) (fun _ _ _ _ _ => (pg_tup rfl (pgs_cons (pg_name (i := 11) sc.nd rfl (by first | exact Or.inl rfl | exact Or.inr rfl)) (pgs_cons (pg_name (i := 12) sc.nd rfl (by first | exact Or.inl rfl | exact Or.inr rfl)) (pgs_cons (pg_name (i := 13) sc.nd rfl (by first | exact Or.inl rfl | exact Or.inr rfl)) pgs_nil))))) (fun _ _ _ _ _ => pts_nil) (fun _ _ _ _ _ => (z_call D_nearest (hr.mono (by decide)) (by rfl) (pa_cons (pv 13) (pa_cons (pe_slice sl_uSl (pv 9) (po_some (pv 11)) (po_some (pv 12))) pa_nil))))) | exact (ps_set (i := 10) sc.nd rfl (Or.inr rfl) (pe_lc (own := [("start", 11), ("stop", 12), ("centres", 13)]) (g := (gTup K 3 (gCons (gName 11) (gCons (gName 12) (gCons (gName 13) gNil))))) (tt := tYes) rfl sc.nd (pi_sq (pv 5)) (blkOk_by (N := N_Codes_layout) (sc := defScope s_Codes_layout) (by decide +kernel)) (fun _ _ _ _ _ => (pg_tup rfl (pgs_cons (pg_name (i := 11) sc.nd rfl (by first | exact Or.inl rfl | exact Or.inr rfl)) (pgs_cons (pg_name (i := 12) sc.nd rfl (by first | exact Or.inl rfl | exact Or.inr rfl)) (pgs_cons (pg_name (i := 13) sc.nd rfl (by first | exact Or.inl rfl | exact Or.inr rfl)) pgs_nil))))) (fun _ _ _ _ _ => pts_nil) (fun _ _ _ _ _ => (z_call D_nearest (hr.mono (by decide)) (by rfl) (pa_cons (pv 13) (pa_cons (pe_slice sl_uSl (pv 9) (po_some (pv 11)) (po_some (pv 12))) pa_nil)))))))
      (pss_cut (ps_if (pt_cmpR (op_notInD (room65 hr)) (pv 10) (pv 6) (by rfl)) (pss_cons (ps_expr (pe_bm PySem.F.plainAttrs_list PySem.F.slot_list_append PySem.F.type_list_append mt_append (pv 6) (pa_cons (pv 10) pa_nil)))
      (pss_cons (by first | exact (ps_setLc (i := 14) (own := [("start", 11), ("stop", 12), ("centres", 13), ("code", 15)]) (g := (gTup K 2 (gCons (gTup K 3 (gCons (gName 11) (gCons (gName 12) (gCons (gName 13) gNil)))) (gCons (gName 15) gNil)))) (tt := tYes) rfl sc.nd rfl rfl (sw_true rfl rfl rfl (by decide +kernel)) (RZ.pi_zipA (by rfl) m_zip (pa_cons (pv 5) (pa_cons (pv 10) pa_nil))) (blkOk_by (N := N_Codes_layout) (sc := defScope s_Codes_layout) (by decide +kernel)) (fun _ _ _ _ _ => (pg_tup rfl (pgs_cons (pg_tup rfl (pgs_cons (pg_name (i := 11) sc.nd rfl (by first | exact Or.inl rfl | exact Or.inr rfl)) (pgs_cons (pg_name (i := 12) sc.nd rfl (by first | exact Or.inl rfl | exact Or.inr rfl)) (pgs_cons (pg_name (i := 13) sc.nd rfl (by first | exact Or.inl rfl | exact Or.inr rfl)) pgs_nil)))) (pgs_cons (pg_name (i := 15) sc.nd rfl (by first | exact Or.inl rfl | exact Or.inr rfl)) pgs_nil)))) (fun _ _ _ _ _ => pts_nil) (fun _ _ _ _ _ => (pe_tup (pa_cons (pv 11) (pa_cons (pe_ix ix_uIx (pv 13) (pv 15) (fun _ _ => rfl)) pa_nil))))) | exact (ps_set (i := 14) sc.nd rfl (Or.inr rfl) (pe_lc (own := [("start", 11), ("stop", 12), ("centres", 13), ("code", 15)]) (g := (gTup K 2 (gCons (gTup K 3 (gCons (gName 11) (gCons (gName 12) (gCons (gName 13) gNil)))) (gCons (gName 15) gNil)))) (tt := tYes) rfl sc.nd (RZ.pi_zipA (by rfl) m_zip (pa_cons (pv 5) (pa_cons (pv 10) pa_nil))) (blkOk_by (N := N_Codes_layout) (sc := defScope s_Codes_layout) (by decide +kernel)) (fun _ _ _ _ _ => (pg_tup rfl (pgs_cons (pg_tup rfl (pgs_cons (pg_name (i := 11) sc.nd rfl (by first | exact Or.inl rfl | exact Or.inr rfl)) (pgs_cons (pg_name (i := 12) sc.nd rfl (by first | exact Or.inl rfl | exact Or.inr rfl)) (pgs_cons (pg_name (i := 13) sc.nd rfl (by first | exact Or.inl rfl | exact Or.inr rfl)) pgs_nil)))) (pgs_cons (pg_name (i := 15) sc.nd rfl (by first | exact Or.inl rfl | exact Or.inr rfl)) pgs_nil)))) (fun _ _ _ _ _ => pts_nil) (fun _ _ _ _ _ => (pe_tup (pa_cons (pv 11) (pa_cons (pe_ix ix_uIx (pv 13) (pv 15) (fun _ _ => rfl)) pa_nil)))))))
      (pss_one (ps_expr (pe_bm PySem.F.plainAttrs_list PySem.F.slot_list_append PySem.F.type_list_append mt_append (pv 7) (pa_cons (z_makeK C_Sketch K_Sketch_init_1_centres pass00 (hr.mono (by decide)) (by rfl) (pa_cons pe_non pa_nil) (pk_cons (pv 14) pk_nil)) pa_nil)))))) pss_nil)
      (pss_one (ps_expr (pe_bm PySem.F.plainAttrs_list PySem.F.slot_list_append PySem.F.type_list_append mt_append (pv 8) (pa_cons (pe_bm PySem.F.plainAttrs_list PySem.F.slot_list_index PySem.F.type_list_index (mt_indexD (room65 hr)) (pv 6) (pa_cons (pv 10) pa_nil)) pa_nil)))))))
      (pss_one (ps_ret (z_make C_Layout K_Layout_init (hr.mono (by decide)) (by rfl) (pa_cons (pv 7) (pa_cons (pv 8) pa_nil)))))))))))
abbrev s_is_letter : Stmt := (topS 27)
theorem sc_is_letter : FnScope N_is_letter ["sign"] (defScope s_is_letter) := ⟨rfl, rfl, rfl, by decide +kernel, rfl, by decide +kernel, by decide +kernel⟩
theorem ok_is_letter {f : Addr} {fd : FuncData} (F : Fun K "is_letter" "is_letter" s_is_letter f fd) : FnOk P w K mg base CX0 1 f fd ["sign"] (sp_is_letter K) := by
  have sc := sc_is_letter
  refine F.ok sc_is_letter (fun vs H Q E h => ((w_is_letter) vs H Q E h).1) (fun cdv A outer s H vs Q E hr h => ⟨T_is_letter K, ?_, ((w_is_letter) vs H Q E h).2⟩)
  exact (pss_one (ps_ret (pe_or (pe_chain op_uLe op_uLe pe_str (pv 0) pe_str) (pe_or (pe_chain op_uLe op_uLe pe_str (pv 0) pe_str) (pe_one (pe_cmpR (op_uEq hr.units) (pv 0) pe_str (nomark _)))))))
abbrev s_is_digit : Stmt := (topS 28)
theorem sc_is_digit : FnScope N_is_digit ["sign"] (defScope s_is_digit) := ⟨rfl, rfl, rfl, by decide +kernel, rfl, by decide +kernel, by decide +kernel⟩
theorem ok_is_digit {f : Addr} {fd : FuncData} (F : Fun K "is_digit" "is_digit" s_is_digit f fd) : FnOk P w K mg base CX0 1 f fd ["sign"] (sp_is_digit K) := by
  have sc := sc_is_digit
  refine F.ok sc_is_digit (fun vs H Q E h => ((w_is_digit) vs H Q E h).1) (fun cdv A outer s H vs Q E hr h => ⟨T_is_digit K, ?_, ((w_is_digit) vs H Q E h).2⟩)
  exact (pss_one (ps_ret (pe_chain op_uLe op_uLe pe_str (pv 0) pe_str)))
abbrev s_is_field_name : Stmt := (topS 29)
theorem sc_is_field_name : FnScope N_is_field_name ["name"] (defScope s_is_field_name) := ⟨rfl, rfl, rfl, by decide +kernel, rfl, by decide +kernel, by decide +kernel⟩
theorem ok_is_field_name (D_is_letter : Dfn P w K mg base 1 "is_letter" ["sign"] (sp_is_letter K)) (D_is_digit : Dfn P w K mg base 1 "is_digit" ["sign"] (sp_is_digit K)) (g_WORDS : ∃ T, mg "WORDS" = some (.ref T) ∧ ∀ H, SqT K H T [.str "every", .str "has", .str "in", .str "and", .str "or", .str "not", .str "true", .str "false"]) {f : Addr} {fd : FuncData} (F : Fun K "is_field_name" "is_field_name" s_is_field_name f fd) : FnOk P w K mg base CX0 2 f fd ["name"] (sp_is_field_name K) := by
  have sc := sc_is_field_name
  refine F.ok sc_is_field_name (fun vs H Q E h => ((w_is_field_name) vs H Q E h).1) (fun cdv A outer s H vs Q E hr h => ⟨T_is_field_name K, ?_, ((w_is_field_name) vs H Q E h).2⟩)
  exact (pss_cons (ps_if (PW.pt (pw_or (pt_cmpR (op_uEq hr.units) (pv 0) pe_str (nomark _)) (pw_or (pt_not (pt_u (z_call D_is_letter (hr.mono (by decide)) (by rfl) (pa_cons (pe_ix ix_uIx (pv 0) pe_int (fun _ _ => rfl)) pa_nil)))) (pw_or1 (pt_cmpR op_uIn (pv 0) (z_gtup g_WORDS (by rfl)) (by rfl)))))) (pss_one (ps_ret pe_bl)) pss_nil)
      (pss_cons (ps_for PassesOwn.never rfl (pi_str (pv 0)) (pg_name (i := 1) sc.nd rfl (by first | exact Or.inl rfl | exact Or.inr rfl)) (pss_one (ps_if (PW.pt (pw_and (pt_not (pt_u (z_call D_is_letter (hr.mono (by decide)) (by rfl) (pa_cons (pv 1) pa_nil)))) (pw_and1 (pt_not (pt_u (z_call D_is_digit (hr.mono (by decide)) (by rfl) (pa_cons (pv 1) pa_nil))))))) (pss_one (ps_ret pe_bl)) pss_nil)))
      (pss_one (ps_ret pe_bl))))
abbrev s_Schema_init : Stmt := (inClass (topS 32) 0)
theorem sc_Schema_init : FnScope N_Schema_init ["self", "size", "width", "measure", "fields"] (defScope s_Schema_init) := ⟨rfl, rfl, rfl, by decide +kernel, rfl, by decide +kernel, by decide +kernel⟩
theorem ok_Schema_init (E_InvalidSchema : ExcF K mg c "InvalidSchema") (D_is_field_name : Dfn P w K mg base 2 "is_field_name" ["name"] (sp_is_field_name K)) (m_tuple : mg "tuple" = none) (g_RANGES : KD K w mg "RANGES" [("bit", .t [.int 0, .int 1]), ("small", .t [.int (-128), .int 127]), ("wide", .t [.int (-32768), .int 32767])]) (g_MEASURES : ∃ T, mg "MEASURES" = some (.ref T) ∧ ∀ H, SqT K H T [.str "square", .str "dot", .str "bits"]) (g_KINDS : ∃ T, mg "KINDS" = some (.ref T) ∧ ∀ H, SqT K H T [.str "integer", .str "text", .str "flag"]) {f : Addr} {fd : FuncData} (F : Fun K "__init__" "Schema.__init__" s_Schema_init f fd) : FnOk P w K mg base (L2.CX P w) 3 f fd ["self", "size", "width", "measure", "fields"] (sp_Schema_init K c) := by
  have sc := sc_Schema_init
  refine F.okX sc_Schema_init (fun vs H Q E h => ((w_Schema_init (c := c)) vs H Q E h).1) (fun cdv A outer s H vs Q E hr h => ⟨T_Schema_init K c (fun cls d _ H => E cls d H), ?_, ((w_Schema_init (c := c)) vs H Q E h).2⟩)
  exact (pss_cons (ps_if (PW.pt (pw_or (pt_cmpR (op_uLt hr.units) (pv 1) pe_int (nomark _)) (pw_or (z_koutP g_RANGES (pv 2) (by rfl)) (pw_or1 (pt_cmpR op_uNotIn (pv 3) (z_gtup g_MEASURES (by rfl)) (by rfl)))))) (pss_one (z_raise rfl E_InvalidSchema (takes_of rfl rfl rfl rfl) (by rfl))) pss_nil)
      (pss_cons (ps_if (PW.pt (pw_and (pt_cmpR (op_uEq hr.units) (pv 3) pe_str (nomark _)) (pw_and1 (pt_cmpR (op_uNe hr.units) (pv 2) pe_str (nomark _))))) (pss_one (z_raise rfl E_InvalidSchema (takes_of rfl rfl rfl rfl) (by rfl))) pss_nil)
      (pss_cons (ps_set (i := 5) sc.nd rfl (by first | exact Or.inl rfl | exact Or.inr rfl) (pe_lst pa_nil))
      (pss_cons (ps_for (passes_of rfl) rfl (pi_sq (pv 4)) (pg_tup rfl (pgs_cons (pg_name (i := 6) sc.nd rfl (by first | exact Or.inl rfl | exact Or.inr rfl)) (pgs_cons (pg_name (i := 7) sc.nd rfl (by first | exact Or.inl rfl | exact Or.inr rfl)) pgs_nil))) (pss_cons (ps_if (PW.pt (pw_or (pt_cmpR op_uNotIn (pv 7) (z_gtup g_KINDS (by rfl)) (by rfl)) (pw_or (pt_not (pt_u (z_call D_is_field_name (hr.mono (by decide)) (by rfl) (pa_cons (pv 6) pa_nil)))) (pw_or1 (pt_cmpR op_uIn (pv 6) (pv 5) (by rfl)))))) (pss_one (z_raise rfl E_InvalidSchema (takes_of rfl rfl rfl rfl) (by rfl))) pss_nil)
      (pss_one (ps_expr (pe_bm PySem.F.plainAttrs_list PySem.F.slot_list_append PySem.F.type_list_append mt_append (pv 5) (pa_cons (pv 6) pa_nil))))))
      (pss_cons (ps_fld (pv 0) (pv 1) rfl)
      (pss_cons (ps_fld (pv 0) (pv 2) rfl)
      (pss_cons (ps_fld (pv 0) (pv 3) rfl)
      (pss_one (ps_fld (pv 0) (pe_callTy call_uTuple (by rfl) m_tuple (by decide +kernel) (pa_cons (pe_lc (own := [("name", 6), ("kind", 7)]) (g := (gTup K 2 (gCons (gName 6) (gCons (gName 7) gNil)))) (tt := tYes) rfl sc.nd (pi_sq (pv 4)) (blkOk_by (N := N_Schema_init) (sc := defScope s_Schema_init) (by decide +kernel)) (fun _ _ _ _ _ => (pg_tup rfl (pgs_cons (pg_name (i := 6) sc.nd rfl (by first | exact Or.inl rfl | exact Or.inr rfl)) (pgs_cons (pg_name (i := 7) sc.nd rfl (by first | exact Or.inl rfl | exact Or.inr rfl)) pgs_nil)))) (fun _ _ _ _ _ => pts_nil) (fun _ _ _ _ _ => (pe_tup (pa_cons (pv 6) (pa_cons (pv 7) pa_nil))))) pa_nil)) rfl)))))))))
abbrev s_law_distance : Stmt := (topS 37)
theorem sc_law_distance : FnScope N_law_distance ["_law_a", "_law_b"] (defScope s_law_distance) := ⟨rfl, rfl, rfl, by decide +kernel, rfl, by decide +kernel, by decide +kernel⟩
theorem ok_law_distance (m_len : mg "len" = none) (m_range : mg "range" = none) {f : Addr} {fd : FuncData} (F : Fun K "_law_distance" "_law_distance" s_law_distance f fd) : FnOk P w K mg base CX0 1 f fd ["_law_a", "_law_b"] (sp_law_distance K) := by
  have sc := sc_law_distance
  refine F.ok sc_law_distance (fun vs H Q E h => ((w_law_distance) vs H Q E h).1) (fun cdv A outer s H vs Q E hr h => ⟨T_law_distance K, ?_, ((w_law_distance) vs H Q E h).2⟩)
  exact (pss_cons (ps_set (i := 2) sc.nd rfl (by first | exact Or.inl rfl | exact Or.inr rfl) pe_int)
      (pss_cons (ps_for PassesOwn.never rfl (pi_range1 (by rfl) m_range (pa_cons (pe_callB call_uLen (by rfl) m_len (by decide +kernel) (pa_cons (pv 0) pa_nil)) pa_nil)) (pg_name (i := 3) sc.nd rfl (by first | exact Or.inl rfl | exact Or.inr rfl)) (pss_one (ps_set (i := 2) sc.nd rfl (by first | exact Or.inl rfl | exact Or.inr rfl) (pe_op op_uAdd (pv 2) (pe_op op_uMul (pe_op op_uSub (pe_ix ix_uIx (pv 0) (pv 3) (fun _ _ => rfl)) (pe_ix ix_uIx (pv 1) (pv 3) (fun _ _ => rfl))) (pe_op op_uSub (pe_ix ix_uIx (pv 0) (pv 3) (fun _ _ => rfl)) (pe_ix ix_uIx (pv 1) (pv 3) (fun _ _ => rfl))))))))
      (pss_one (ps_ret (pv 2)))))
abbrev s_law_nearest : Stmt := (topS 38)
theorem sc_law_nearest : FnScope N_law_nearest ["_law_centres", "_law_vector"] (defScope s_law_nearest) := ⟨rfl, rfl, rfl, by decide +kernel, rfl, by decide +kernel, by decide +kernel⟩
theorem ok_law_nearest (D_law_distance : Dfn P w K mg base 1 "_law_distance" ["_law_a", "_law_b"] (sp_law_distance K)) (m_len : mg "len" = none) (m_range : mg "range" = none) {f : Addr} {fd : FuncData} (F : Fun K "_law_nearest" "_law_nearest" s_law_nearest f fd) : FnOk P w K mg base CX0 2 f fd ["_law_centres", "_law_vector"] (sp_law_nearest K) := by
  have sc := sc_law_nearest
  refine F.ok sc_law_nearest (fun vs H Q E h => ((w_law_nearest) vs H Q E h).1) (fun cdv A outer s H vs Q E hr h => ⟨T_law_nearest K, ?_, ((w_law_nearest) vs H Q E h).2⟩)
  exact (pss_cons (ps_set (i := 2) sc.nd rfl (by first | exact Or.inl rfl | exact Or.inr rfl) pe_int)
      (pss_cons (ps_for PassesOwn.never rfl (pi_range1 (by rfl) m_range (pa_cons (pe_callB call_uLen (by rfl) m_len (by decide +kernel) (pa_cons (pv 0) pa_nil)) pa_nil)) (pg_name (i := 3) sc.nd rfl (by first | exact Or.inl rfl | exact Or.inr rfl)) (pss_one (ps_if (pt_cmpR (op_uLt hr.units) (z_call D_law_distance (hr.mono (by decide)) (by rfl) (pa_cons (pe_ix ix_uIx (pv 0) (pv 3) (fun _ _ => rfl)) (pa_cons (pv 1) pa_nil))) (z_call D_law_distance (hr.mono (by decide)) (by rfl) (pa_cons (pe_ix ix_uIx (pv 0) (pv 2) (fun _ _ => rfl)) (pa_cons (pv 1) pa_nil))) (nomark _)) (pss_one (ps_set (i := 2) sc.nd rfl (by first | exact Or.inl rfl | exact Or.inr rfl) (pv 3))) pss_nil)))
      (pss_one (ps_ret (pv 2)))))
abbrev s_law_shown : Stmt := (topS 39)
theorem sc_law_shown : FnScope N_law_shown ["_law_layout"] (defScope s_law_shown) := ⟨rfl, rfl, rfl, by decide +kernel, rfl, by decide +kernel, by decide +kernel⟩
theorem ok_law_shown (m_list : mg "list" = none) {f : Addr} {fd : FuncData} (F : Fun K "_law_shown" "_law_shown" s_law_shown f fd) : FnOk P w K mg base CX0 1 f fd ["_law_layout"] (sp_law_shown K c) := by
  have sc := sc_law_shown
  refine F.ok sc_law_shown (fun vs H Q E h => ((w_law_shown (c := c)) vs H Q E h).1) (fun cdv A outer s H vs Q E hr h => ⟨T_law_shown K, ?_, ((w_law_shown (c := c)) vs H Q E h).2⟩)
  exact (pss_cons (ps_set (i := 1) sc.nd rfl (by first | exact Or.inl rfl | exact Or.inr rfl) (pe_lst pa_nil))
      (pss_cons (ps_for PassesOwn.never rfl (pi_sq (pe_fld (pv 0) rfl)) (pg_name (i := 2) sc.nd rfl (by first | exact Or.inl rfl | exact Or.inr rfl)) (pss_cons (by first | exact (ps_setLc (i := 3) (own := [("_law_start", 4), ("_law_centre", 5)]) (g := (gTup K 2 (gCons (gName 4) (gCons (gName 5) gNil)))) (tt := tYes) rfl sc.nd rfl rfl (sw_true rfl rfl rfl (by decide +kernel)) (pi_sq (pe_fld (pv 2) rfl)) (blkOk_by (N := N_law_shown) (sc := defScope s_law_shown) (by decide +kernel)) (fun _ _ _ _ _ => (pg_tup rfl (pgs_cons (pg_name (i := 4) sc.nd rfl (by first | exact Or.inl rfl | exact Or.inr rfl)) (pgs_cons (pg_name (i := 5) sc.nd rfl (by first | exact Or.inl rfl | exact Or.inr rfl)) pgs_nil)))) (fun _ _ _ _ _ => pts_nil) (fun _ _ _ _ _ => (pe_tup (pa_cons (pv 4) (pa_cons (pe_callTy call_uList (by rfl) m_list (by decide +kernel) (pa_cons (pv 5) pa_nil)) pa_nil))))) | exact (ps_set (i := 3) sc.nd rfl (Or.inr rfl) (pe_lc (own := [("_law_start", 4), ("_law_centre", 5)]) (g := (gTup K 2 (gCons (gName 4) (gCons (gName 5) gNil)))) (tt := tYes) rfl sc.nd (pi_sq (pe_fld (pv 2) rfl)) (blkOk_by (N := N_law_shown) (sc := defScope s_law_shown) (by decide +kernel)) (fun _ _ _ _ _ => (pg_tup rfl (pgs_cons (pg_name (i := 4) sc.nd rfl (by first | exact Or.inl rfl | exact Or.inr rfl)) (pgs_cons (pg_name (i := 5) sc.nd rfl (by first | exact Or.inl rfl | exact Or.inr rfl)) pgs_nil)))) (fun _ _ _ _ _ => pts_nil) (fun _ _ _ _ _ => (pe_tup (pa_cons (pv 4) (pa_cons (pe_callTy call_uList (by rfl) m_list (by decide +kernel) (pa_cons (pv 5) pa_nil)) pa_nil)))))))
      (pss_cons (by first | exact (ps_setLc (i := 6) (own := [("_law_near", 7), ("_law_rival", 8)]) (g := (gTup K 2 (gCons (gName 7) (gCons (gName 8) gNil)))) (tt := tYes) rfl sc.nd rfl rfl (sw_true rfl rfl rfl (by decide +kernel)) (pi_sq (pe_fld (pv 2) rfl)) (blkOk_by (N := N_law_shown) (sc := defScope s_law_shown) (by decide +kernel)) (fun _ _ _ _ _ => (pg_tup rfl (pgs_cons (pg_name (i := 7) sc.nd rfl (by first | exact Or.inl rfl | exact Or.inr rfl)) (pgs_cons (pg_name (i := 8) sc.nd rfl (by first | exact Or.inl rfl | exact Or.inr rfl)) pgs_nil)))) (fun _ _ _ _ _ => pts_nil) (fun _ _ _ _ _ => (pe_tup (pa_cons (pe_callTy call_uList (by rfl) m_list (by decide +kernel) (pa_cons (pv 7) pa_nil)) (pa_cons (pe_callTy call_uList (by rfl) m_list (by decide +kernel) (pa_cons (pv 8) pa_nil)) pa_nil))))) | exact (ps_set (i := 6) sc.nd rfl (Or.inr rfl) (pe_lc (own := [("_law_near", 7), ("_law_rival", 8)]) (g := (gTup K 2 (gCons (gName 7) (gCons (gName 8) gNil)))) (tt := tYes) rfl sc.nd (pi_sq (pe_fld (pv 2) rfl)) (blkOk_by (N := N_law_shown) (sc := defScope s_law_shown) (by decide +kernel)) (fun _ _ _ _ _ => (pg_tup rfl (pgs_cons (pg_name (i := 7) sc.nd rfl (by first | exact Or.inl rfl | exact Or.inr rfl)) (pgs_cons (pg_name (i := 8) sc.nd rfl (by first | exact Or.inl rfl | exact Or.inr rfl)) pgs_nil)))) (fun _ _ _ _ _ => pts_nil) (fun _ _ _ _ _ => (pe_tup (pa_cons (pe_callTy call_uList (by rfl) m_list (by decide +kernel) (pa_cons (pv 7) pa_nil)) (pa_cons (pe_callTy call_uList (by rfl) m_list (by decide +kernel) (pa_cons (pv 8) pa_nil)) pa_nil)))))))
      (pss_one (ps_expr (pe_bm PySem.F.plainAttrs_list PySem.F.slot_list_append PySem.F.type_list_append mt_append (pv 1) (pa_cons (pe_tup (pa_cons (pe_fld (pv 2) rfl) (pa_cons (pv 3) (pa_cons (pv 6) pa_nil)))) pa_nil)))))))
      (pss_one (ps_ret (pe_tup (pa_cons (pv 1) (pa_cons (pe_callTy call_uList (by rfl) m_list (by decide +kernel) (pa_cons (pe_fld (pv 0) rfl) pa_nil)) pa_nil)))))))
abbrev s_law : Stmt := (topS 40)
theorem sc_law : FnScope N_law ["_law_script"] (defScope s_law) := ⟨rfl, rfl, rfl, by decide +kernel, rfl, by decide +kernel, by decide +kernel⟩
theorem ok_law (C_Record : ClsF K mg c "Record" ["name", "vector", "fields", "words"]) (C_Codes : ClsF K mg c "Codes" ["parts", "centres", "rounds"]) (C_Schema : ClsF K mg c "Schema" ["size", "width", "measure", "fields"]) (D_law_next : Dfn P w K mg base 2 "_law_next" ["_law_state", "_law_many"] (sp_law_next K)) (D_law_rows_of : Dfn P w K mg base 3 "_law_rows_of" ["_law_state", "_law_size", "_law_spread"] (sp_law_rows_of K)) (K_Record_init_2 : MkrK CX0 P w K mg base 1 (c.cls "Record") ["self", "name", "vector", "fields", "words"] (sp_Record_init K c) 2 [] [.e, .e] [(false, 0), (false, 1)]) (K_Codes_init_1_centres_rounds : MkrK (L2.CX P w) P w K mg base 2 (c.cls "Codes") ["self", "parts", "centres", "rounds"] (sp_Codes_init K c) 1 ["centres", "rounds"] [] [(true, 0), (true, 1)]) (M_Codes_layout : Mth P w K mg base 6 (c.cls "Codes") "layout" ["self", "schema", "records"] (sp_Codes_layout K c)) (K_Schema_init_1 : MkrK (L2.CX P w) P w K mg base 3 (c.cls "Schema") ["self", "size", "width", "measure", "fields"] (sp_Schema_init K c) 1 [] [(.v (.str "small")), (.v (.str "square")), .e] [(false, 0), (false, 1), (false, 2)]) (D_train : Dfn P w K mg base 4 "train" ["vectors", "number", "rounds"] (sp_train K)) (D_law_nearest : Dfn P w K mg base 2 "_law_nearest" ["_law_centres", "_law_vector"] (sp_law_nearest K)) (D_law_shown : Dfn P w K mg base 1 "_law_shown" ["_law_layout"] (sp_law_shown K c)) (m_list : mg "list" = none) (m_range : mg "range" = none) (m_tuple : mg "tuple" = none) {f : Addr} {fd : FuncData} (F : Fun K "law" "law" s_law f fd) : FnOk P w K mg base CX0 7 f fd ["_law_script"] (sp_law K) := by
  have sc := sc_law
  refine F.ok sc_law (fun vs H Q E h => ((w_law (c := c)) vs H Q E h).1) (fun cdv A outer s H vs Q E hr h => ⟨T_law K c, ?_, ((w_law (c := c)) vs H Q E h).2⟩)
  exact (pss_cons (ps_set (i := 1) sc.nd rfl (by first | exact Or.inl rfl | exact Or.inr rfl) (pe_lst (pa_cons (pe_callTy call_uList (by rfl) m_list (by decide +kernel) (pa_cons (pv 0) pa_nil)) (pa_cons pe_int (pa_cons pe_int pa_nil)))))
      (pss_cons (ps_set (i := 2) sc.nd rfl (by first | exact Or.inl rfl | exact Or.inr rfl) (pe_op op_uAdd pe_int (z_call D_law_next (hr.mono (by decide)) (by rfl) (pa_cons (pv 1) (pa_cons pe_int pa_nil)))))
      (pss_cons (ps_set (i := 3) sc.nd rfl (by first | exact Or.inl rfl | exact Or.inr rfl) (z_call D_law_rows_of (hr.mono (by decide)) (by rfl) (pa_cons (pv 1) (pa_cons (pv 2) (pa_cons (pe_ix ix_uIx (pe_lst (pa_cons pe_int (pa_cons pe_int (pa_cons pe_int pa_nil)))) (z_call D_law_next (hr.mono (by decide)) (by rfl) (pa_cons (pv 1) (pa_cons pe_int pa_nil))) (fun _ _ => rfl)) pa_nil)))))
      (pss_cons (ps_set (i := 4) sc.nd rfl (by first | exact Or.inl rfl | exact Or.inr rfl) (pe_op op_uAdd pe_int (z_call D_law_next (hr.mono (by decide)) (by rfl) (pa_cons (pv 1) (pa_cons pe_int pa_nil)))))
      (pss_cons (ps_set (i := 5) sc.nd rfl (by first | exact Or.inl rfl | exact Or.inr rfl) (pe_op op_uAdd pe_int (z_call D_law_next (hr.mono (by decide)) (by rfl) (pa_cons (pv 1) (pa_cons pe_int pa_nil)))))
      (pss_cons (ps_set (i := 6) sc.nd rfl (by first | exact Or.inl rfl | exact Or.inr rfl) (z_call D_law_next (hr.mono (by decide)) (by rfl) (pa_cons (pv 1) (pa_cons pe_int pa_nil))))
      (pss_cons (by first | exact (ps_setLc (i := 7) (own := [("_law_name", 8), ("_law_vector", 9)]) (g := (gTup K 2 (gCons (gName 8) (gCons (gName 9) gNil)))) (tt := tYes) rfl sc.nd rfl rfl (sw_true rfl rfl rfl (by decide +kernel)) (pi_sq (pv 3)) (blkOk_by (N := N_law) (sc := defScope s_law) (by decide +kernel)) (fun _ _ _ _ _ => (pg_tup rfl (pgs_cons (pg_name (i := 8) sc.nd rfl (by first | exact Or.inl rfl | exact Or.inr rfl)) (pgs_cons (pg_name (i := 9) sc.nd rfl (by first | exact Or.inl rfl | exact Or.inr rfl)) pgs_nil)))) (fun _ _ _ _ _ => pts_nil) (fun _ _ _ _ _ => (z_makeK C_Record K_Record_init_2 pass00 (hr.mono (by decide)) (by rfl) (pa_cons (pv 8) (pa_cons (pe_callTy call_uList (by rfl) m_list (by decide +kernel) (pa_cons (pv 9) pa_nil)) pa_nil)) pk_nil))) | exact (ps_set (i := 7) sc.nd rfl (Or.inr rfl) (pe_lc (own := [("_law_name", 8), ("_law_vector", 9)]) (g := (gTup K 2 (gCons (gName 8) (gCons (gName 9) gNil)))) (tt := tYes) rfl sc.nd (pi_sq (pv 3)) (blkOk_by (N := N_law) (sc := defScope s_law) (by decide +kernel)) (fun _ _ _ _ _ => (pg_tup rfl (pgs_cons (pg_name (i := 8) sc.nd rfl (by first | exact Or.inl rfl | exact Or.inr rfl)) (pgs_cons (pg_name (i := 9) sc.nd rfl (by first | exact Or.inl rfl | exact Or.inr rfl)) pgs_nil)))) (fun _ _ _ _ _ => pts_nil) (fun _ _ _ _ _ => (z_makeK C_Record K_Record_init_2 pass00 (hr.mono (by decide)) (by rfl) (pa_cons (pv 8) (pa_cons (pe_callTy call_uList (by rfl) m_list (by decide +kernel) (pa_cons (pv 9) pa_nil)) pa_nil)) pk_nil)))))
      (pss_cons (ps_set (i := 10) sc.nd rfl (by first | exact Or.inl rfl | exact Or.inr rfl) (z_meth (z_makeK C_Codes K_Codes_init_1_centres_rounds passF (hr.mono (by decide)) (by rfl) (pa_cons (pv 4) pa_nil) (pk_cons (pv 5) (pk_cons (pv 6) pk_nil))) C_Codes M_Codes_layout (hr.mono (by decide)) (pa_cons (z_makeK C_Schema K_Schema_init_1 passF (hr.mono (by decide)) (by rfl) (pa_cons (pv 2) pa_nil) pk_nil) (pa_cons (pe_callTy call_uList (by rfl) m_list (by decide +kernel) (pa_cons (pv 7) pa_nil)) pa_nil))))
      (pss_cons (by first | exact (ps_setLc (i := 11) (own := [("_law_j", 12)]) (g := (gName 12)) (tt := tYes) rfl sc.nd rfl rfl (sw_true rfl rfl rfl (by decide +kernel)) (pi_range1 (by rfl) m_range (pa_cons (pv 4) pa_nil)) (blkOk_by (N := N_law) (sc := defScope s_law) (by decide +kernel)) (fun _ _ _ _ _ => (pg_name (i := 12) sc.nd rfl (by first | exact Or.inl rfl | exact Or.inr rfl))) (fun _ _ _ _ _ => pts_nil) (fun _ _ _ _ _ => (pe_tup (pa_cons (pe_op op_uDiv (pe_op op_uMul (pv 12) (pv 2)) (pv 4)) (pa_cons (pe_op op_uDiv (pe_op op_uMul (pe_op op_uAdd (pv 12) pe_int) (pv 2)) (pv 4)) pa_nil))))) | exact (ps_set (i := 11) sc.nd rfl (Or.inr rfl) (pe_lc (own := [("_law_j", 12)]) (g := (gName 12)) (tt := tYes) rfl sc.nd (pi_range1 (by rfl) m_range (pa_cons (pv 4) pa_nil)) (blkOk_by (N := N_law) (sc := defScope s_law) (by decide +kernel)) (fun _ _ _ _ _ => (pg_name (i := 12) sc.nd rfl (by first | exact Or.inl rfl | exact Or.inr rfl))) (fun _ _ _ _ _ => pts_nil) (fun _ _ _ _ _ => (pe_tup (pa_cons (pe_op op_uDiv (pe_op op_uMul (pv 12) (pv 2)) (pv 4)) (pa_cons (pe_op op_uDiv (pe_op op_uMul (pe_op op_uAdd (pv 12) pe_int) (pv 2)) (pv 4)) pa_nil)))))))
      (pss_cons (by first | exact (ps_setLc (i := 13) (own := [("_law_low", 14), ("_law_high", 15)]) (g := (gTup K 2 (gCons (gName 14) (gCons (gName 15) gNil)))) (tt := tYes) rfl sc.nd rfl rfl (sw_true rfl rfl rfl (by decide +kernel)) (pi_sq (pv 11)) (blkOk_by (N := N_law) (sc := defScope s_law) (by decide +kernel)) (fun _ _ _ _ _ => (pg_tup rfl (pgs_cons (pg_name (i := 14) sc.nd rfl (by first | exact Or.inl rfl | exact Or.inr rfl)) (pgs_cons (pg_name (i := 15) sc.nd rfl (by first | exact Or.inl rfl | exact Or.inr rfl)) pgs_nil)))) (fun _ _ _ _ _ => pts_nil) (fun _ _ _ _ _ => (z_call D_train (hr.mono (by decide)) (by rfl) (pa_cons (pe_lc (own := [("_law_name", 8), ("_law_vector", 9)]) (g := (gTup K 2 (gCons (gName 8) (gCons (gName 9) gNil)))) (tt := tYes) rfl sc.nd (pi_sq (pv 3)) (blkOk_by (by with_unfolding_all rfl)) (fun _ _ _ _ _ => (pg_tup rfl (pgs_cons (pg_name (i := 8) sc.nd rfl (by first | exact Or.inl rfl | exact Or.inr rfl)) (pgs_cons (pg_name (i := 9) sc.nd rfl (by first | exact Or.inl rfl | exact Or.inr rfl)) pgs_nil)))) (fun _ _ _ _ _ => pts_nil) (fun _ _ _ _ _ => (pe_callTy call_uTuple (by rfl) m_tuple (by decide +kernel) (pa_cons (pe_slice sl_uSl (pv 9) (po_some (pv 14)) (po_some (pv 15))) pa_nil)))) (pa_cons (pv 5) (pa_cons (pv 6) pa_nil)))))) | exact (ps_set (i := 13) sc.nd rfl (Or.inr rfl) (pe_lc (own := [("_law_low", 14), ("_law_high", 15)]) (g := (gTup K 2 (gCons (gName 14) (gCons (gName 15) gNil)))) (tt := tYes) rfl sc.nd (pi_sq (pv 11)) (blkOk_by (N := N_law) (sc := defScope s_law) (by decide +kernel)) (fun _ _ _ _ _ => (pg_tup rfl (pgs_cons (pg_name (i := 14) sc.nd rfl (by first | exact Or.inl rfl | exact Or.inr rfl)) (pgs_cons (pg_name (i := 15) sc.nd rfl (by first | exact Or.inl rfl | exact Or.inr rfl)) pgs_nil)))) (fun _ _ _ _ _ => pts_nil) (fun _ _ _ _ _ => (z_call D_train (hr.mono (by decide)) (by rfl) (pa_cons (pe_lc (own := [("_law_name", 8), ("_law_vector", 9)]) (g := (gTup K 2 (gCons (gName 8) (gCons (gName 9) gNil)))) (tt := tYes) rfl sc.nd (pi_sq (pv 3)) (blkOk_by (by with_unfolding_all rfl)) (fun _ _ _ _ _ => (pg_tup rfl (pgs_cons (pg_name (i := 8) sc.nd rfl (by first | exact Or.inl rfl | exact Or.inr rfl)) (pgs_cons (pg_name (i := 9) sc.nd rfl (by first | exact Or.inl rfl | exact Or.inr rfl)) pgs_nil)))) (fun _ _ _ _ _ => pts_nil) (fun _ _ _ _ _ => (pe_callTy call_uTuple (by rfl) m_tuple (by decide +kernel) (pa_cons (pe_slice sl_uSl (pv 9) (po_some (pv 14)) (po_some (pv 15))) pa_nil)))) (pa_cons (pv 5) (pa_cons (pv 6) pa_nil))))))))
      (pss_cons (ps_set (i := 16) sc.nd rfl (by first | exact Or.inl rfl | exact Or.inr rfl) (pe_lst pa_nil))
      (pss_cons (ps_set (i := 17) sc.nd rfl (by first | exact Or.inl rfl | exact Or.inr rfl) (pe_lst pa_nil))
      (pss_cons (ps_set (i := 18) sc.nd rfl (by first | exact Or.inl rfl | exact Or.inr rfl) (pe_lst pa_nil))
      (pss_cons (ps_for PassesOwn.never rfl (pi_sq (pv 3)) (pg_tup rfl (pgs_cons (pg_name (i := 8) sc.nd rfl (by first | exact Or.inl rfl | exact Or.inr rfl)) (pgs_cons (pg_name (i := 9) sc.nd rfl (by first | exact Or.inl rfl | exact Or.inr rfl)) pgs_nil))) (pss_cons (ps_set (i := 19) sc.nd rfl (by first | exact Or.inl rfl | exact Or.inr rfl) (pe_lst pa_nil))
      (pss_cons (ps_for PassesOwn.never rfl (pi_range1 (by rfl) m_range (pa_cons (pv 4) pa_nil)) (pg_name (i := 12) sc.nd rfl (by first | exact Or.inl rfl | exact Or.inr rfl)) (pss_one (ps_expr (pe_bm PySem.F.plainAttrs_list PySem.F.slot_list_append PySem.F.type_list_append mt_append (pv 19) (pa_cons (z_call D_law_nearest (hr.mono (by decide)) (by rfl) (pa_cons (pe_ix ix_uIx (pv 13) (pv 12) (fun _ _ => rfl)) (pa_cons (pe_slice sl_uSl (pv 9) (po_some (pe_ix ix_uIx (pe_ix ix_uIx (pv 11) (pv 12) (fun _ _ => rfl)) pe_int (fun _ _ => rfl))) (po_some (pe_ix ix_uIx (pe_ix ix_uIx (pv 11) (pv 12) (fun _ _ => rfl)) pe_int (fun _ _ => rfl)))) pa_nil))) pa_nil)))))
      (pss_cut (ps_if (pt_cmpR (op_notInD (room65 hr)) (pv 19) (pv 16) (by rfl)) (pss_cons (ps_expr (pe_bm PySem.F.plainAttrs_list PySem.F.slot_list_append PySem.F.type_list_append mt_append (pv 16) (pa_cons (pv 19) pa_nil)))
      (pss_one (ps_expr (pe_bm PySem.F.plainAttrs_list PySem.F.slot_list_append PySem.F.type_list_append mt_append (pv 17) (pa_cons (pe_tup (pa_cons pe_non (pa_cons (pe_lc (own := [("_law_j", 12)]) (g := (gName 12)) (tt := tYes) rfl sc.nd (pi_range1 (by rfl) m_range (pa_cons (pv 4) pa_nil)) (blkOk_by (N := N_law) (sc := defScope s_law) (by decide +kernel)) (fun _ _ _ _ _ => (pg_name (i := 12) sc.nd rfl (by first | exact Or.inl rfl | exact Or.inr rfl))) (fun _ _ _ _ _ => pts_nil) (fun _ _ _ _ _ => (pe_tup (pa_cons (pe_ix ix_uIx (pe_ix ix_uIx (pv 11) (pv 12) (fun _ _ => rfl)) pe_int (fun _ _ => rfl)) (pa_cons (pe_callTy call_uList (by rfl) m_list (by decide +kernel) (pa_cons (pe_ix ix_uIx (pe_ix ix_uIx (pv 13) (pv 12) (fun _ _ => rfl)) (pe_ix ix_uIx (pv 19) (pv 12) (fun _ _ => rfl)) (fun _ _ => rfl)) pa_nil)) pa_nil))))) (pa_cons (pe_lst pa_nil) pa_nil)))) pa_nil))))) pss_nil)
      (pss_one (ps_expr (pe_bm PySem.F.plainAttrs_list PySem.F.slot_list_append PySem.F.type_list_append mt_append (pv 18) (pa_cons (pe_bm PySem.F.plainAttrs_list PySem.F.slot_list_index PySem.F.type_list_index (mt_indexD (room65 hr)) (pv 16) (pa_cons (pv 19) pa_nil)) pa_nil))))))))
      (pss_one (ps_ret (pe_cmpR (op_uEq hr.units) (z_call D_law_shown (hr.mono (by decide)) (by rfl) (pa_cons (pv 10) pa_nil)) (pe_tup (pa_cons (pv 17) (pa_cons (pv 18) pa_nil))) (nomark _))))))))))))))))))
end
def cEnv (C0 C1 C2 C3 C4 C5 C6 : Addr) : CEnv := ⟨fun x => (([("InvalidRule", C0), ("Codes", C1), ("Sketch", C2), ("Layout", C3), ("InvalidSchema", C4), ("Record", C5), ("Schema", C6)] : List (Str × Addr)).lookup x).getD 0, fun y => y ∈ ([] : List Str)⟩
theorem all_mk {l : PySem.W.OpenLaw} {w : World} {K : PySem.W.Frag} {h : Heap} {mg : Str → Option Value} {fa f0 f1 f2 f3 f4 f5 f6 f7 f8 f9 f10 f11 f12 f13 f14 f15 f16 f17 f18 f19 f20 f21 f22 C0 C1 C2 C3 C4 C5 C6  : Addr} (X : K.In h) (G : h.Ns mainGlobals mg) (hfa : mg "law" = some (.ref fa))
    {tg0_0 tg0_1 tg0_2 tg0_3 tg0_4 tg0_5 tg0_6 tg0_7 tg1_0 tg1_1 tg1_2 tx1_0_0 tx1_0_1 tx1_1_0 tx1_1_1 tx1_2_0 tx1_2_1 tg2_0 tg2_1 tg2_2 tg3_0 tg3_1 tg3_2 tt5_rounds tt18_width tt18_measure : Tok}
    {kt1 : Addr} {ktn1 : Nat}
    {kh1_0 kh1_1 kh1_2 : Int}
    {kv1_0 kv1_1 kv1_2 : Addr} {kvd1_0 kvd1_1 kvd1_2 : Option Addr} {kvn1_0 kvn1_1 kvn1_2 : Nat} {kvs1_0 kvs1_1 kvs1_2 : Array (Option Value)}
    {kt0 kt2 kt3 : Addr} {ktd0 ktd2 ktd3 : Option Addr} {ktn0 ktn2 ktn3 : Nat} {kts0 kts2 kts3 : Array (Option Value)}
    {kD3 kD5 kD12 kD18 kT3_fields kT3_words kT12_centres kT12_cells kT18_fields : Addr}
    {ddkT3_fields ddkT3_words ddkT12_centres ddkT12_cells ddkT18_fields : Option Addr} {nnkT3_fields nnkT3_words nnkT12_centres nnkT12_cells nnkT18_fields : Nat} {sskT3_fields sskT3_words sskT12_centres sskT12_cells sskT18_fields : Array (Option Value)}
    {od0 an0 od1 an1 od2 an2 od3 an3 od4 an4 od5 an5 od6 an6 od7 an7 od8 an8 od9 an9 od10 an10 od11 an11 od12 an12 od13 an13 od14 an14 od15 an15 od16 an16 od17 an17 od18 an18 od19 an19 od20 an20 od21 an21 od22 an22 : Option Addr} {sl0 sl1 sl2 sl3 sl4 sl5 sl6 sl7 sl8 sl9 sl10 sl11 sl12 sl13 sl14 sl15 sl16 sl17 sl18 sl19 sl20 sl21 sl22 : Array (Option Value)} {oc0 kV0 dc0 pm0 cd0 ct0 oc1 kV1 dc1 pm1 cd1 ct1 oc2 kV2 dc2 pm2 cd2 ct2 oc3 dc3 pm3 cd3 ct3 oc4 kV4 dc4 pm4 cd4 ct4 oc5 dc5 pm5 cd5 ct5 oc6 kV6 dc6 pm6 cd6 ct6 oc7 kV7 dc7 pm7 cd7 ct7 oc8 kV8 dc8 pm8 cd8 ct8 oc9 kV9 dc9 pm9 cd9 ct9 oc10 kV10 dc10 pm10 cd10 ct10 oc11 kV11 dc11 pm11 cd11 ct11 oc12 dc12 pm12 cd12 ct12 oc13 kV13 dc13 pm13 cd13 ct13 oc14 kV14 dc14 pm14 cd14 ct14 oc15 kV15 dc15 pm15 cd15 ct15 oc16 kV16 dc16 pm16 cd16 ct16 oc17 kV17 dc17 pm17 cd17 ct17 oc18 dc18 pm18 cd18 ct18 oc19 kV19 dc19 pm19 cd19 ct19 oc20 kV20 dc20 pm20 cd20 ct20 oc21 kV21 dc21 pm21 cd21 ct21 oc22 kV22 dc22 pm22 cd22 ct22 : Value}
    (b0 : PySem.W.nsIn K mainGlobals "InvalidRule" = some (some (.ref C0)))
    (xq0 : PySem.W.excIn K C0 [.type "ValueError", .type "Exception", .type "BaseException", .type "object"] "ValueError.__new__" = true)
    (kc0 : PySem.W.keepIn K (.ref C0) = true)
    (xb0 : PySem.W.subIn K (.ref C0) (.type "BaseException") = some true)
    (xt0 : PySem.W.typeIn K (.ref C0) = some (.type "type"))
    (b1 : PySem.W.nsIn K mainGlobals "Codes" = some (some (.ref C1)))
    (pg1 : PySem.W.plainGet K C1 Str.empty = true)
    (hd1 : PySem.W.hasDictIn K C1 = true)
    (po1 : PySem.W.plainOver K C1 = true)
    (sa1 : PySem.W.findIn K (.ref C1) "__setattr__" = some (some (.builtin "object.__setattr__")))
    (ha1 : PySem.W.findIn K (.ref C1) "__class__" = some (some (.builtin "object.__class__")))
    (hm1 : PySem.W.mroIn K C1 (.type "object") = some true)
    (mk1 : PySem.W.makesIn K C1 = true)
    (kc1 : PySem.W.keepIn K (.ref C1) = true)
    (n1_0 : PySem.W.findIn K (.ref C1) "parts" = some none)
    (n1_1 : PySem.W.findIn K (.ref C1) "centres" = some none)
    (n1_2 : PySem.W.findIn K (.ref C1) "rounds" = some none)
    (b2 : PySem.W.nsIn K mainGlobals "Sketch" = some (some (.ref C2)))
    (pg2 : PySem.W.plainGet K C2 Str.empty = true)
    (hd2 : PySem.W.hasDictIn K C2 = true)
    (po2 : PySem.W.plainOver K C2 = true)
    (sa2 : PySem.W.findIn K (.ref C2) "__setattr__" = some (some (.builtin "object.__setattr__")))
    (ha2 : PySem.W.findIn K (.ref C2) "__class__" = some (some (.builtin "object.__class__")))
    (hm2 : PySem.W.mroIn K C2 (.type "object") = some true)
    (mk2 : PySem.W.makesIn K C2 = true)
    (kc2 : PySem.W.keepIn K (.ref C2) = true)
    (n2_0 : PySem.W.findIn K (.ref C2) "parent" = some none)
    (n2_1 : PySem.W.findIn K (.ref C2) "centres" = some none)
    (n2_2 : PySem.W.findIn K (.ref C2) "cells" = some none)
    (b3 : PySem.W.nsIn K mainGlobals "Layout" = some (some (.ref C3)))
    (pg3 : PySem.W.plainGet K C3 Str.empty = true)
    (hd3 : PySem.W.hasDictIn K C3 = true)
    (po3 : PySem.W.plainOver K C3 = true)
    (sa3 : PySem.W.findIn K (.ref C3) "__setattr__" = some (some (.builtin "object.__setattr__")))
    (ha3 : PySem.W.findIn K (.ref C3) "__class__" = some (some (.builtin "object.__class__")))
    (hm3 : PySem.W.mroIn K C3 (.type "object") = some true)
    (mk3 : PySem.W.makesIn K C3 = true)
    (kc3 : PySem.W.keepIn K (.ref C3) = true)
    (n3_0 : PySem.W.findIn K (.ref C3) "sketches" = some none)
    (n3_1 : PySem.W.findIn K (.ref C3) "leaves" = some none)
    (b4 : PySem.W.nsIn K mainGlobals "InvalidSchema" = some (some (.ref C4)))
    (xq4 : PySem.W.excIn K C4 [.type "ValueError", .type "Exception", .type "BaseException", .type "object"] "ValueError.__new__" = true)
    (kc4 : PySem.W.keepIn K (.ref C4) = true)
    (xb4 : PySem.W.subIn K (.ref C4) (.type "BaseException") = some true)
    (xt4 : PySem.W.typeIn K (.ref C4) = some (.type "type"))
    (b5 : PySem.W.nsIn K mainGlobals "Record" = some (some (.ref C5)))
    (pg5 : PySem.W.plainGet K C5 Str.empty = true)
    (hd5 : PySem.W.hasDictIn K C5 = true)
    (po5 : PySem.W.plainOver K C5 = true)
    (sa5 : PySem.W.findIn K (.ref C5) "__setattr__" = some (some (.builtin "object.__setattr__")))
    (ha5 : PySem.W.findIn K (.ref C5) "__class__" = some (some (.builtin "object.__class__")))
    (hm5 : PySem.W.mroIn K C5 (.type "object") = some true)
    (mk5 : PySem.W.makesIn K C5 = true)
    (kc5 : PySem.W.keepIn K (.ref C5) = true)
    (n5_0 : PySem.W.findIn K (.ref C5) "name" = some none)
    (n5_1 : PySem.W.findIn K (.ref C5) "vector" = some none)
    (n5_2 : PySem.W.findIn K (.ref C5) "fields" = some none)
    (n5_3 : PySem.W.findIn K (.ref C5) "words" = some none)
    (b6 : PySem.W.nsIn K mainGlobals "Schema" = some (some (.ref C6)))
    (pg6 : PySem.W.plainGet K C6 Str.empty = true)
    (hd6 : PySem.W.hasDictIn K C6 = true)
    (po6 : PySem.W.plainOver K C6 = true)
    (sa6 : PySem.W.findIn K (.ref C6) "__setattr__" = some (some (.builtin "object.__setattr__")))
    (ha6 : PySem.W.findIn K (.ref C6) "__class__" = some (some (.builtin "object.__class__")))
    (hm6 : PySem.W.mroIn K C6 (.type "object") = some true)
    (mk6 : PySem.W.makesIn K C6 = true)
    (kc6 : PySem.W.keepIn K (.ref C6) = true)
    (n6_0 : PySem.W.findIn K (.ref C6) "size" = some none)
    (n6_1 : PySem.W.findIn K (.ref C6) "width" = some none)
    (n6_2 : PySem.W.findIn K (.ref C6) "measure" = some none)
    (n6_3 : PySem.W.findIn K (.ref C6) "fields" = some none)
    (hn : PySem.W.specialIn K (.builtin "object.__class__") "__get__" = some (some (.builtin "getset_descriptor.__get__")))
    (htk : PySem.W.takesIn K (.builtin "object.__class__") = some true)
    (a0 : PySem.W.nsIn K mainGlobals "_law_row" = some (some (.ref f0)))
    (l0 : K.lookup f0 = some ⟨oc0, od0, .func (PySem.W.fnOf "_law_row" "_law_row" (defArgs s_law_row) (defBody s_law_row) (defScope s_law_row) .none kV0 dc0 pm0 an0 cd0 ct0), sl0⟩)
    (c0 : PySem.W.codeIn K cd0 "_law_row" = true)
    (k0 : PySem.W.keepIn K (.ref f0) = true)
    (a1 : PySem.W.nsIn K mainGlobals "_law_next" = some (some (.ref f1)))
    (l1 : K.lookup f1 = some ⟨oc1, od1, .func (PySem.W.fnOf "_law_next" "_law_next" (defArgs s_law_next) (defBody s_law_next) (defScope s_law_next) .none kV1 dc1 pm1 an1 cd1 ct1), sl1⟩)
    (c1 : PySem.W.codeIn K cd1 "_law_next" = true)
    (k1 : PySem.W.keepIn K (.ref f1) = true)
    (a2 : PySem.W.nsIn K mainGlobals "_law_rows_of" = some (some (.ref f2)))
    (l2 : K.lookup f2 = some ⟨oc2, od2, .func (PySem.W.fnOf "_law_rows_of" "_law_rows_of" (defArgs s_law_rows_of) (defBody s_law_rows_of) (defScope s_law_rows_of) .none kV2 dc2 pm2 an2 cd2 ct2), sl2⟩)
    (c2 : PySem.W.codeIn K cd2 "_law_rows_of" = true)
    (k2 : PySem.W.keepIn K (.ref f2) = true)
    (a3 : PySem.W.findIn K (.ref C5) "__init__" = some (some (.ref f3)))
    (i3 : PySem.W.isFn K (.ref f3) = true)
    (l3 : K.lookup f3 = some ⟨oc3, od3, .func (PySem.W.fnOf "__init__" "Record.__init__" (defArgs s_Record_init) (defBody s_Record_init) (defScope s_Record_init) .none (.ref kD3) dc3 pm3 an3 cd3 ct3), sl3⟩)
    (c3 : PySem.W.codeIn K cd3 "Record.__init__" = true)
    (k3 : PySem.W.keepIn K (.ref f3) = true)
    (a4 : PySem.W.nsIn K mainGlobals "check_rule" = some (some (.ref f4)))
    (l4 : K.lookup f4 = some ⟨oc4, od4, .func (PySem.W.fnOf "check_rule" "check_rule" (defArgs s_check_rule) (defBody s_check_rule) (defScope s_check_rule) .none kV4 dc4 pm4 an4 cd4 ct4), sl4⟩)
    (c4 : PySem.W.codeIn K cd4 "check_rule" = true)
    (k4 : PySem.W.keepIn K (.ref f4) = true)
    (a5 : PySem.W.findIn K (.ref C1) "__init__" = some (some (.ref f5)))
    (i5 : PySem.W.isFn K (.ref f5) = true)
    (l5 : K.lookup f5 = some ⟨oc5, od5, .func (PySem.W.fnOf "__init__" "Codes.__init__" (defArgs s_Codes_init) (defBody s_Codes_init) (defScope s_Codes_init) .none (.ref kD5) dc5 pm5 an5 cd5 ct5), sl5⟩)
    (c5 : PySem.W.codeIn K cd5 "Codes.__init__" = true)
    (k5 : PySem.W.keepIn K (.ref f5) = true)
    (a6 : PySem.W.nsIn K mainGlobals "distance" = some (some (.ref f6)))
    (l6 : K.lookup f6 = some ⟨oc6, od6, .func (PySem.W.fnOf "distance" "distance" (defArgs s_distance) (defBody s_distance) (defScope s_distance) .none kV6 dc6 pm6 an6 cd6 ct6), sl6⟩)
    (c6 : PySem.W.codeIn K cd6 "distance" = true)
    (k6 : PySem.W.keepIn K (.ref f6) = true)
    (a7 : PySem.W.nsIn K mainGlobals "nearest" = some (some (.ref f7)))
    (l7 : K.lookup f7 = some ⟨oc7, od7, .func (PySem.W.fnOf "nearest" "nearest" (defArgs s_nearest) (defBody s_nearest) (defScope s_nearest) .none kV7 dc7 pm7 an7 cd7 ct7), sl7⟩)
    (c7 : PySem.W.codeIn K cd7 "nearest" = true)
    (k7 : PySem.W.keepIn K (.ref f7) = true)
    (a8 : PySem.W.nsIn K mainGlobals "mean" = some (some (.ref f8)))
    (l8 : K.lookup f8 = some ⟨oc8, od8, .func (PySem.W.fnOf "mean" "mean" (defArgs s_mean) (defBody s_mean) (defScope s_mean) .none kV8 dc8 pm8 an8 cd8 ct8), sl8⟩)
    (c8 : PySem.W.codeIn K cd8 "mean" = true)
    (k8 : PySem.W.keepIn K (.ref f8) = true)
    (a9 : PySem.W.nsIn K mainGlobals "move" = some (some (.ref f9)))
    (l9 : K.lookup f9 = some ⟨oc9, od9, .func (PySem.W.fnOf "move" "move" (defArgs s_move) (defBody s_move) (defScope s_move) .none kV9 dc9 pm9 an9 cd9 ct9), sl9⟩)
    (c9 : PySem.W.codeIn K cd9 "move" = true)
    (k9 : PySem.W.keepIn K (.ref f9) = true)
    (a10 : PySem.W.nsIn K mainGlobals "train" = some (some (.ref f10)))
    (l10 : K.lookup f10 = some ⟨oc10, od10, .func (PySem.W.fnOf "train" "train" (defArgs s_train) (defBody s_train) (defScope s_train) .none kV10 dc10 pm10 an10 cd10 ct10), sl10⟩)
    (c10 : PySem.W.codeIn K cd10 "train" = true)
    (k10 : PySem.W.keepIn K (.ref f10) = true)
    (a11 : PySem.W.findIn K (.ref C1) "books" = some (some (.ref f11)))
    (i11 : PySem.W.isFn K (.ref f11) = true)
    (l11 : K.lookup f11 = some ⟨oc11, od11, .func (PySem.W.fnOf "books" "Codes.books" (defArgs s_Codes_books) (defBody s_Codes_books) (defScope s_Codes_books) .none kV11 dc11 pm11 an11 cd11 ct11), sl11⟩)
    (c11 : PySem.W.codeIn K cd11 "Codes.books" = true)
    (k11 : PySem.W.keepIn K (.ref f11) = true)
    (a12 : PySem.W.findIn K (.ref C2) "__init__" = some (some (.ref f12)))
    (i12 : PySem.W.isFn K (.ref f12) = true)
    (l12 : K.lookup f12 = some ⟨oc12, od12, .func (PySem.W.fnOf "__init__" "Sketch.__init__" (defArgs s_Sketch_init) (defBody s_Sketch_init) (defScope s_Sketch_init) .none (.ref kD12) dc12 pm12 an12 cd12 ct12), sl12⟩)
    (c12 : PySem.W.codeIn K cd12 "Sketch.__init__" = true)
    (k12 : PySem.W.keepIn K (.ref f12) = true)
    (a13 : PySem.W.findIn K (.ref C3) "__init__" = some (some (.ref f13)))
    (i13 : PySem.W.isFn K (.ref f13) = true)
    (l13 : K.lookup f13 = some ⟨oc13, od13, .func (PySem.W.fnOf "__init__" "Layout.__init__" (defArgs s_Layout_init) (defBody s_Layout_init) (defScope s_Layout_init) .none kV13 dc13 pm13 an13 cd13 ct13), sl13⟩)
    (c13 : PySem.W.codeIn K cd13 "Layout.__init__" = true)
    (k13 : PySem.W.keepIn K (.ref f13) = true)
    (a14 : PySem.W.findIn K (.ref C1) "layout" = some (some (.ref f14)))
    (i14 : PySem.W.isFn K (.ref f14) = true)
    (l14 : K.lookup f14 = some ⟨oc14, od14, .func (PySem.W.fnOf "layout" "Codes.layout" (defArgs s_Codes_layout) (defBody s_Codes_layout) (defScope s_Codes_layout) .none kV14 dc14 pm14 an14 cd14 ct14), sl14⟩)
    (c14 : PySem.W.codeIn K cd14 "Codes.layout" = true)
    (k14 : PySem.W.keepIn K (.ref f14) = true)
    (a15 : PySem.W.nsIn K mainGlobals "is_letter" = some (some (.ref f15)))
    (l15 : K.lookup f15 = some ⟨oc15, od15, .func (PySem.W.fnOf "is_letter" "is_letter" (defArgs s_is_letter) (defBody s_is_letter) (defScope s_is_letter) .none kV15 dc15 pm15 an15 cd15 ct15), sl15⟩)
    (c15 : PySem.W.codeIn K cd15 "is_letter" = true)
    (k15 : PySem.W.keepIn K (.ref f15) = true)
    (a16 : PySem.W.nsIn K mainGlobals "is_digit" = some (some (.ref f16)))
    (l16 : K.lookup f16 = some ⟨oc16, od16, .func (PySem.W.fnOf "is_digit" "is_digit" (defArgs s_is_digit) (defBody s_is_digit) (defScope s_is_digit) .none kV16 dc16 pm16 an16 cd16 ct16), sl16⟩)
    (c16 : PySem.W.codeIn K cd16 "is_digit" = true)
    (k16 : PySem.W.keepIn K (.ref f16) = true)
    (a17 : PySem.W.nsIn K mainGlobals "is_field_name" = some (some (.ref f17)))
    (l17 : K.lookup f17 = some ⟨oc17, od17, .func (PySem.W.fnOf "is_field_name" "is_field_name" (defArgs s_is_field_name) (defBody s_is_field_name) (defScope s_is_field_name) .none kV17 dc17 pm17 an17 cd17 ct17), sl17⟩)
    (c17 : PySem.W.codeIn K cd17 "is_field_name" = true)
    (k17 : PySem.W.keepIn K (.ref f17) = true)
    (a18 : PySem.W.findIn K (.ref C6) "__init__" = some (some (.ref f18)))
    (i18 : PySem.W.isFn K (.ref f18) = true)
    (l18 : K.lookup f18 = some ⟨oc18, od18, .func (PySem.W.fnOf "__init__" "Schema.__init__" (defArgs s_Schema_init) (defBody s_Schema_init) (defScope s_Schema_init) .none (.ref kD18) dc18 pm18 an18 cd18 ct18), sl18⟩)
    (c18 : PySem.W.codeIn K cd18 "Schema.__init__" = true)
    (k18 : PySem.W.keepIn K (.ref f18) = true)
    (a19 : PySem.W.nsIn K mainGlobals "_law_distance" = some (some (.ref f19)))
    (l19 : K.lookup f19 = some ⟨oc19, od19, .func (PySem.W.fnOf "_law_distance" "_law_distance" (defArgs s_law_distance) (defBody s_law_distance) (defScope s_law_distance) .none kV19 dc19 pm19 an19 cd19 ct19), sl19⟩)
    (c19 : PySem.W.codeIn K cd19 "_law_distance" = true)
    (k19 : PySem.W.keepIn K (.ref f19) = true)
    (a20 : PySem.W.nsIn K mainGlobals "_law_nearest" = some (some (.ref f20)))
    (l20 : K.lookup f20 = some ⟨oc20, od20, .func (PySem.W.fnOf "_law_nearest" "_law_nearest" (defArgs s_law_nearest) (defBody s_law_nearest) (defScope s_law_nearest) .none kV20 dc20 pm20 an20 cd20 ct20), sl20⟩)
    (c20 : PySem.W.codeIn K cd20 "_law_nearest" = true)
    (k20 : PySem.W.keepIn K (.ref f20) = true)
    (a21 : PySem.W.nsIn K mainGlobals "_law_shown" = some (some (.ref f21)))
    (l21 : K.lookup f21 = some ⟨oc21, od21, .func (PySem.W.fnOf "_law_shown" "_law_shown" (defArgs s_law_shown) (defBody s_law_shown) (defScope s_law_shown) .none kV21 dc21 pm21 an21 cd21 ct21), sl21⟩)
    (c21 : PySem.W.codeIn K cd21 "_law_shown" = true)
    (k21 : PySem.W.keepIn K (.ref f21) = true)
    (a22 : PySem.W.nsIn K mainGlobals "law" = some (some (.ref f22)))
    (l22 : K.lookup f22 = some ⟨oc22, od22, .func (PySem.W.fnOf "law" "law" (defArgs s_law) (defBody s_law) (defScope s_law) .none kV22 dc22 pm22 an22 cd22 ct22), sl22⟩)
    (c22 : PySem.W.codeIn K cd22 "law" = true)
    (k22 : PySem.W.keepIn K (.ref f22) = true)
    (kd3_fields : PySem.W.nsIn K kD3 "fields" = some (some (.ref kT3_fields)))
    (kx3_fields : K.lookup kT3_fields = some ⟨.type "tuple", ddkT3_fields, .seq ([] : List Value).toArray nnkT3_fields, sskT3_fields⟩)
    (kd3_words : PySem.W.nsIn K kD3 "words" = some (some (.ref kT3_words)))
    (kx3_words : K.lookup kT3_words = some ⟨.type "tuple", ddkT3_words, .seq ([] : List Value).toArray nnkT3_words, sskT3_words⟩)
    (kd5_rounds : PySem.W.nsIn K kD5 "rounds" = some (some (.int 0 tt5_rounds)))
    (kd12_centres : PySem.W.nsIn K kD12 "centres" = some (some (.ref kT12_centres)))
    (kx12_centres : K.lookup kT12_centres = some ⟨.type "tuple", ddkT12_centres, .seq ([] : List Value).toArray nnkT12_centres, sskT12_centres⟩)
    (kd12_cells : PySem.W.nsIn K kD12 "cells" = some (some (.ref kT12_cells)))
    (kx12_cells : K.lookup kT12_cells = some ⟨.type "tuple", ddkT12_cells, .seq ([] : List Value).toArray nnkT12_cells, sskT12_cells⟩)
    (kd18_width : PySem.W.nsIn K kD18 "width" = some (some (.str "small" tt18_width)))
    (kd18_measure : PySem.W.nsIn K kD18 "measure" = some (some (.str "square" tt18_measure)))
    (kd18_fields : PySem.W.nsIn K kD18 "fields" = some (some (.ref kT18_fields)))
    (kx18_fields : K.lookup kT18_fields = some ⟨.type "tuple", ddkT18_fields, .seq ([] : List Value).toArray nnkT18_fields, sskT18_fields⟩)
    (z0 : PySem.W.nsIn K mainGlobals "len" = some none)
    (z1 : PySem.W.nsIn K mainGlobals "int" = some none)
    (z2 : PySem.W.nsIn K mainGlobals "range" = some none)
    (z3 : PySem.W.nsIn K mainGlobals "str" = some none)
    (z4 : PySem.W.nsIn K mainGlobals "tuple" = some none)
    (z5 : PySem.W.nsIn K mainGlobals "zip" = some none)
    (z6 : PySem.W.nsIn K mainGlobals "sum" = some none)
    (z7 : PySem.W.nsIn K mainGlobals "enumerate" = some none)
    (z8 : PySem.W.nsIn K mainGlobals "min" = some none)
    (z9 : PySem.W.nsIn K mainGlobals "list" = some none)
    (kg0 : PySem.W.nsIn K mainGlobals "WORDS" = some (some (.ref kt0)))
    (kl0 : K.lookup kt0 = some ⟨.type "tuple", ktd0, .seq ([.str "every" tg0_0, .str "has" tg0_1, .str "in" tg0_2, .str "and" tg0_3, .str "or" tg0_4, .str "not" tg0_5, .str "true" tg0_6, .str "false" tg0_7] : List Value).toArray ktn0, kts0⟩)
    (kg1 : PySem.W.nsIn K mainGlobals "RANGES" = some (some (.ref kt1)))
    (kl1 : K.lookup kt1 = some ⟨.type "dict", none, .dict ([⟨kh1_0, .str "bit" tg1_0, .ref kv1_0⟩, ⟨kh1_1, .str "small" tg1_1, .ref kv1_1⟩, ⟨kh1_2, .str "wide" tg1_2, .ref kv1_2⟩] : List DictEntry).toArray ktn1, #[]⟩)
    (kk1 : PySem.W.KeysLit w.params [⟨kh1_0, .str "bit" tg1_0, .ref kv1_0⟩, ⟨kh1_1, .str "small" tg1_1, .ref kv1_1⟩, ⟨kh1_2, .str "wide" tg1_2, .ref kv1_2⟩])
    (ko1 : (kt1 == sysModules) = false)
    (kw1_0 : K.lookup kv1_0 = some ⟨.type "tuple", kvd1_0, .seq ([.int 0 tx1_0_0, .int 1 tx1_0_1] : List Value).toArray kvn1_0, kvs1_0⟩)
    (kw1_1 : K.lookup kv1_1 = some ⟨.type "tuple", kvd1_1, .seq ([.int (-128) tx1_1_0, .int 127 tx1_1_1] : List Value).toArray kvn1_1, kvs1_1⟩)
    (kw1_2 : K.lookup kv1_2 = some ⟨.type "tuple", kvd1_2, .seq ([.int (-32768) tx1_2_0, .int 32767 tx1_2_1] : List Value).toArray kvn1_2, kvs1_2⟩)
    (kg2 : PySem.W.nsIn K mainGlobals "MEASURES" = some (some (.ref kt2)))
    (kl2 : K.lookup kt2 = some ⟨.type "tuple", ktd2, .seq ([.str "square" tg2_0, .str "dot" tg2_1, .str "bits" tg2_2] : List Value).toArray ktn2, kts2⟩)
    (kg3 : PySem.W.nsIn K mainGlobals "KINDS" = some (some (.ref kt3)))
    (kl3 : K.lookup kt3 = some ⟨.type "tuple", ktd3, .seq ([.str "integer" tg3_0, .str "text" tg3_1, .str "flag" tg3_2] : List Value).toArray ktn3, kts3⟩)
    : ∃ fd : FuncData, (∀ (s : Shared) (v : Value), BindsTo s fd ⟨[v], []⟩ [("_law_script", v)]) ∧ ∀ base : Heap, K.In base → base.Ns mainGlobals mg → FnOk l.prog w K mg base CX0 7 fa fd ["_law_script"] (sp_law K) := by
  have e := hfa.symm.trans (PySem.W.mg_of X G a22)
  cases e
  have m_len := PySem.W.mg_none_of X G z0
  have m_int := PySem.W.mg_none_of X G z1
  have m_range := PySem.W.mg_none_of X G z2
  have m_str := PySem.W.mg_none_of X G z3
  have m_tuple := PySem.W.mg_none_of X G z4
  have m_zip := PySem.W.mg_none_of X G z5
  have m_sum := PySem.W.mg_none_of X G z6
  have m_enumerate := PySem.W.mg_none_of X G z7
  have m_min := PySem.W.mg_none_of X G z8
  have m_list := PySem.W.mg_none_of X G z9
  have g_WORDS : ∃ T, mg "WORDS" = some (.ref T) ∧ ∀ H, SqT K H T [.str "every", .str "has", .str "in", .str "and", .str "or", .str "not", .str "true", .str "false"] := ⟨_, PySem.W.mg_of X G kg0, sqT_lit kl0 (.cons ⟨_, rfl⟩ (.cons ⟨_, rfl⟩ (.cons ⟨_, rfl⟩ (.cons ⟨_, rfl⟩ (.cons ⟨_, rfl⟩ (.cons ⟨_, rfl⟩ (.cons ⟨_, rfl⟩ (.cons ⟨_, rfl⟩ .nil)))))))) (by decide)⟩
  have g_RANGES : KD K w mg "RANGES" [("bit", .t [.int 0, .int 1]), ("small", .t [.int (-128), .int 127]), ("wide", .t [.int (-32768), .int 32767])] := kd_of (PySem.W.mg_of X G kg1) kl1 kk1 ko1 (.cons ⟨⟨_, rfl⟩, ⟨.ref kv1_0, rfl, _, rfl, sqT_lit kw1_0 (.cons ⟨_, rfl⟩ (.cons ⟨_, rfl⟩ .nil)) (by decide)⟩⟩ (.cons ⟨⟨_, rfl⟩, ⟨.ref kv1_1, rfl, _, rfl, sqT_lit kw1_1 (.cons ⟨_, rfl⟩ (.cons ⟨_, rfl⟩ .nil)) (by decide)⟩⟩ (.cons ⟨⟨_, rfl⟩, ⟨.ref kv1_2, rfl, _, rfl, sqT_lit kw1_2 (.cons ⟨_, rfl⟩ (.cons ⟨_, rfl⟩ .nil)) (by decide)⟩⟩ .nil)))
  have g_MEASURES : ∃ T, mg "MEASURES" = some (.ref T) ∧ ∀ H, SqT K H T [.str "square", .str "dot", .str "bits"] := ⟨_, PySem.W.mg_of X G kg2, sqT_lit kl2 (.cons ⟨_, rfl⟩ (.cons ⟨_, rfl⟩ (.cons ⟨_, rfl⟩ .nil))) (by decide)⟩
  have g_KINDS : ∃ T, mg "KINDS" = some (.ref T) ∧ ∀ H, SqT K H T [.str "integer", .str "text", .str "flag"] := ⟨_, PySem.W.mg_of X G kg3, sqT_lit kl3 (.cons ⟨_, rfl⟩ (.cons ⟨_, rfl⟩ (.cons ⟨_, rfl⟩ .nil))) (by decide)⟩
  have E_InvalidRule : ExcF K mg (cEnv C0 C1 C2 C3 C4 C5 C6) "InvalidRule" := ⟨xq0, PySem.W.mg_of X G b0, kc0, xb0, xt0⟩
  have E_InvalidSchema : ExcF K mg (cEnv C0 C1 C2 C3 C4 C5 C6) "InvalidSchema" := ⟨xq4, PySem.W.mg_of X G b4, kc4, xb4, xt4⟩
  have F0 := fun_mk (st := s_law_row) l0 c0 k0
  have F1 := fun_mk (st := s_law_next) l1 c1 k1
  have F2 := fun_mk (st := s_law_rows_of) l2 c2 k2
  have F3 := fun_mk (st := s_Record_init) l3 c3 k3
  have F4 := fun_mk (st := s_check_rule) l4 c4 k4
  have F5 := fun_mk (st := s_Codes_init) l5 c5 k5
  have F6 := fun_mk (st := s_distance) l6 c6 k6
  have F7 := fun_mk (st := s_nearest) l7 c7 k7
  have F8 := fun_mk (st := s_mean) l8 c8 k8
  have F9 := fun_mk (st := s_move) l9 c9 k9
  have F10 := fun_mk (st := s_train) l10 c10 k10
  have F11 := fun_mk (st := s_Codes_books) l11 c11 k11
  have F12 := fun_mk (st := s_Sketch_init) l12 c12 k12
  have F13 := fun_mk (st := s_Layout_init) l13 c13 k13
  have F14 := fun_mk (st := s_Codes_layout) l14 c14 k14
  have F15 := fun_mk (st := s_is_letter) l15 c15 k15
  have F16 := fun_mk (st := s_is_digit) l16 c16 k16
  have F17 := fun_mk (st := s_is_field_name) l17 c17 k17
  have F18 := fun_mk (st := s_Schema_init) l18 c18 k18
  have F19 := fun_mk (st := s_law_distance) l19 c19 k19
  have F20 := fun_mk (st := s_law_nearest) l20 c20 k20
  have F21 := fun_mk (st := s_law_shown) l21 c21 k21
  have F22 := fun_mk (st := s_law) l22 c22 k22
  have O_Codes : ClsOk K (cEnv C0 C1 C2 C3 C4 C5 C6) "Codes" ["parts", "centres", "rounds"] := ⟨⟨pg1, hd1, po1, sa1⟩, na_of (List.forall_mem_cons.mpr ⟨n1_0, (List.forall_mem_cons.mpr ⟨n1_1, (List.forall_mem_cons.mpr ⟨n1_2, (fun _ h => nomatch h)⟩)⟩)⟩), ha1, hn, htk, hm1, (fun _ h => nomatch h), (fun _ h => nomatch h)⟩
  have C_Codes : ClsF K mg (cEnv C0 C1 C2 C3 C4 C5 C6) "Codes" ["parts", "centres", "rounds"] := ⟨O_Codes, fun h => absurd h (by show _ ∉ ([] : List Str); decide +kernel), PySem.W.mg_of X G b1⟩
  have O_Sketch : ClsOk K (cEnv C0 C1 C2 C3 C4 C5 C6) "Sketch" ["parent", "centres", "cells"] := ⟨⟨pg2, hd2, po2, sa2⟩, na_of (List.forall_mem_cons.mpr ⟨n2_0, (List.forall_mem_cons.mpr ⟨n2_1, (List.forall_mem_cons.mpr ⟨n2_2, (fun _ h => nomatch h)⟩)⟩)⟩), ha2, hn, htk, hm2, (fun _ h => nomatch h), (fun _ h => nomatch h)⟩
  have C_Sketch : ClsF K mg (cEnv C0 C1 C2 C3 C4 C5 C6) "Sketch" ["parent", "centres", "cells"] := ⟨O_Sketch, fun h => absurd h (by show _ ∉ ([] : List Str); decide +kernel), PySem.W.mg_of X G b2⟩
  have O_Layout : ClsOk K (cEnv C0 C1 C2 C3 C4 C5 C6) "Layout" ["sketches", "leaves"] := ⟨⟨pg3, hd3, po3, sa3⟩, na_of (List.forall_mem_cons.mpr ⟨n3_0, (List.forall_mem_cons.mpr ⟨n3_1, (fun _ h => nomatch h)⟩)⟩), ha3, hn, htk, hm3, (fun _ h => nomatch h), (fun _ h => nomatch h)⟩
  have C_Layout : ClsF K mg (cEnv C0 C1 C2 C3 C4 C5 C6) "Layout" ["sketches", "leaves"] := ⟨O_Layout, fun h => absurd h (by show _ ∉ ([] : List Str); decide +kernel), PySem.W.mg_of X G b3⟩
  have O_Record : ClsOk K (cEnv C0 C1 C2 C3 C4 C5 C6) "Record" ["name", "vector", "fields", "words"] := ⟨⟨pg5, hd5, po5, sa5⟩, na_of (List.forall_mem_cons.mpr ⟨n5_0, (List.forall_mem_cons.mpr ⟨n5_1, (List.forall_mem_cons.mpr ⟨n5_2, (List.forall_mem_cons.mpr ⟨n5_3, (fun _ h => nomatch h)⟩)⟩)⟩)⟩), ha5, hn, htk, hm5, (fun _ h => nomatch h), (fun _ h => nomatch h)⟩
  have C_Record : ClsF K mg (cEnv C0 C1 C2 C3 C4 C5 C6) "Record" ["name", "vector", "fields", "words"] := ⟨O_Record, fun h => absurd h (by show _ ∉ ([] : List Str); decide +kernel), PySem.W.mg_of X G b5⟩
  have O_Schema : ClsOk K (cEnv C0 C1 C2 C3 C4 C5 C6) "Schema" ["size", "width", "measure", "fields"] := ⟨⟨pg6, hd6, po6, sa6⟩, na_of (List.forall_mem_cons.mpr ⟨n6_0, (List.forall_mem_cons.mpr ⟨n6_1, (List.forall_mem_cons.mpr ⟨n6_2, (List.forall_mem_cons.mpr ⟨n6_3, (fun _ h => nomatch h)⟩)⟩)⟩)⟩), ha6, hn, htk, hm6, (fun _ h => nomatch h), (fun _ h => nomatch h)⟩
  have C_Schema : ClsF K mg (cEnv C0 C1 C2 C3 C4 C5 C6) "Schema" ["size", "width", "measure", "fields"] := ⟨O_Schema, fun h => absurd h (by show _ ∉ ([] : List Str); decide +kernel), PySem.W.mg_of X G b6⟩
  refine ⟨PySem.W.fnOf "law" "law" (defArgs s_law) (defBody s_law) (defScope s_law) .none kV22 dc22 pm22 an22 cd22 ct22, fun s v => .of_eq rfl, fun base _ _ => ?_⟩
  have D_law_row : Dfn l.prog w K mg base 1 "_law_row" ["_law_script", "_law_k"] (sp_law_row K) := ⟨_, _, PySem.W.mg_of X G a0, F0.kp, F0.binds (ps := ["_law_script", "_law_k"]) (fun _ _ _ _ _ _ us hl => match us, hl with | [_, _], _ => rfl), ok_law_row m_len m_int F0⟩
  have D_law_next : Dfn l.prog w K mg base 2 "_law_next" ["_law_state", "_law_many"] (sp_law_next K) := ⟨_, _, PySem.W.mg_of X G a1, F1.kp, F1.binds (ps := ["_law_state", "_law_many"]) (fun _ _ _ _ _ _ us hl => match us, hl with | [_, _], _ => rfl), ok_law_next D_law_row m_int F1⟩
  have D_law_rows_of : Dfn l.prog w K mg base 3 "_law_rows_of" ["_law_state", "_law_size", "_law_spread"] (sp_law_rows_of K) := ⟨_, _, PySem.W.mg_of X G a2, F2.kp, F2.binds (ps := ["_law_state", "_law_size", "_law_spread"]) (fun _ _ _ _ _ _ us hl => match us, hl with | [_, _, _], _ => rfl), ok_law_rows_of D_law_next m_range m_str F2⟩
  have FD3 : FunD K "__init__" "Record.__init__" (defArgs s_Record_init) (defBody s_Record_init) (defScope s_Record_init) [] [("fields", .ref kT3_fields), ("words", .ref kT3_words)] f3 _ := ⟨⟨_, _, _, _, _, _, _, _, _, _, rfl, l3, c3, .inl ⟨rfl, rfl⟩, .inr ⟨kD3, rfl, (List.forall_mem_cons.mpr ⟨⟨_, kd3_fields, rfl⟩, (List.forall_mem_cons.mpr ⟨⟨_, kd3_words, rfl⟩, (fun _ h => nomatch h)⟩)⟩)⟩⟩, k3⟩
  have B_K_Record_init_2 := FunD.kbinds0 (ps := ["self", "name", "vector", "fields", "words"]) FD3 3 [] [("fields", .ref kT3_fields), ("words", .ref kT3_words)] (gSel [(false, 0), (false, 1)]) (by simp) (by simp) (fun r1 r2 r3 => gSel_rel [(false, 0), (false, 1)] r1 r2 r3) (fun D doc pm an cdv ct us mv ws h1 h2 h3 => match us, h1, mv, h2, ws, h3 with | [_, _, _], _, [_, _], _, [], _ => ⟨_, _, _, _, _, _, rfl, rfl, ⟨_, _, _, _, _, _, rfl, rfl, rfl⟩⟩)
  have K_Record_init_2 : MkrK CX0 l.prog w K mg base 1 ((cEnv C0 C1 C2 C3 C4 C5 C6).cls "Record") ["self", "name", "vector", "fields", "words"] (sp_Record_init K (cEnv C0 C1 C2 C3 C4 C5 C6)) 2 [] [.e, .e] [(false, 0), (false, 1)] := B_K_Record_init_2.elim fun mv hb => ⟨_, _, _, _, ⟨mk5, a3, i3, kc5⟩, (.cons ⟨_, rfl, sqT_lit kx3_fields .nil (by decide)⟩ (.cons ⟨_, rfl, sqT_lit kx3_words .nil (by decide)⟩ .nil)), hb, ok_Record_init m_tuple F3⟩
  have D_check_rule : DfnX l.prog w K mg base 1 "check_rule" ["positive", "other"] (sp_check_rule K (cEnv C0 C1 C2 C3 C4 C5 C6)) := ⟨_, _, PySem.W.mg_of X G a4, F4.kp, F4.binds (ps := ["positive", "other"]) (fun _ _ _ _ _ _ us hl => match us, hl with | [_, _], _ => rfl), ok_check_rule E_InvalidRule F4⟩
  have FD5 : FunD K "__init__" "Codes.__init__" (defArgs s_Codes_init) (defBody s_Codes_init) (defScope s_Codes_init) [] [("rounds", (.int 0))] f5 _ := ⟨⟨_, _, _, _, _, _, _, _, _, _, rfl, l5, c5, .inl ⟨rfl, rfl⟩, .inr ⟨kD5, rfl, (List.forall_mem_cons.mpr ⟨⟨_, kd5_rounds, ⟨_, rfl⟩⟩, (fun _ h => nomatch h)⟩)⟩⟩, k5⟩
  have B_K_Codes_init_1_centres_rounds := FunD.kbinds0 (ps := ["self", "parts", "centres", "rounds"]) FD5 2 ["centres", "rounds"] [] (gSel [(true, 0), (true, 1)]) (by simp) (by simp) (fun r1 r2 r3 => gSel_rel [(true, 0), (true, 1)] r1 r2 r3) (fun D doc pm an cdv ct us mv ws h1 h2 h3 => match us, h1, mv, h2, ws, h3 with | [_, _], _, [], _, [_, _], _ => rfl)
  have K_Codes_init_1_centres_rounds : MkrK (L2.CX l.prog w) l.prog w K mg base 2 ((cEnv C0 C1 C2 C3 C4 C5 C6).cls "Codes") ["self", "parts", "centres", "rounds"] (sp_Codes_init K (cEnv C0 C1 C2 C3 C4 C5 C6)) 1 ["centres", "rounds"] [] [(true, 0), (true, 1)] := B_K_Codes_init_1_centres_rounds.elim fun mv hb => ⟨_, _, _, _, ⟨mk1, a5, i5, kc1⟩, .nil, hb, ok_Codes_init D_check_rule F5⟩
  have D_distance : Dfn l.prog w K mg base 1 "distance" ["a", "b"] (sp_distance K) := ⟨_, _, PySem.W.mg_of X G a6, F6.kp, F6.binds (ps := ["a", "b"]) (fun _ _ _ _ _ _ us hl => match us, hl with | [_, _], _ => rfl), ok_distance m_zip F6⟩
  have D_nearest : Dfn l.prog w K mg base 2 "nearest" ["centres", "vector"] (sp_nearest K) := ⟨_, _, PySem.W.mg_of X G a7, F7.kp, F7.binds (ps := ["centres", "vector"]) (fun _ _ _ _ _ _ us hl => match us, hl with | [_, _], _ => rfl), ok_nearest D_distance m_len m_range F7⟩
  have D_mean : Dfn l.prog w K mg base 1 "mean" ["vectors"] (sp_mean K) := ⟨_, _, PySem.W.mg_of X G a8, F8.kp, F8.binds (ps := ["vectors"]) (fun _ _ _ _ _ _ us hl => match us, hl with | [_], _ => rfl), ok_mean m_len m_range m_sum m_tuple F8⟩
  have D_move : Dfn l.prog w K mg base 3 "move" ["centres", "vectors"] (sp_move K) := ⟨_, _, PySem.W.mg_of X G a9, F9.kp, F9.binds (ps := ["centres", "vectors"]) (fun _ _ _ _ _ _ us hl => match us, hl with | [_, _], _ => rfl), ok_move D_nearest D_mean m_enumerate m_zip m_len F9⟩
  have D_train : Dfn l.prog w K mg base 4 "train" ["vectors", "number", "rounds"] (sp_train K) := ⟨_, _, PySem.W.mg_of X G a10, F10.kp, F10.binds (ps := ["vectors", "number", "rounds"]) (fun _ _ _ _ _ _ us hl => match us, hl with | [_, _, _], _ => rfl), ok_train D_move m_len m_min m_range m_tuple F10⟩
  have M_Codes_books : Mth l.prog w K mg base 5 ((cEnv C0 C1 C2 C3 C4 C5 C6).cls "Codes") "books" ["self", "schema", "vectors"] (sp_Codes_books K (cEnv C0 C1 C2 C3 C4 C5 C6)) := ⟨_, _, ⟨a11, i11, k11⟩, F11.binds (ps := ["self", "schema", "vectors"]) (fun _ _ _ _ _ _ us hl => match us, hl with | [_, _, _], _ => rfl), ok_Codes_books D_train m_range F11⟩
  have FD12 : FunD K "__init__" "Sketch.__init__" (defArgs s_Sketch_init) (defBody s_Sketch_init) (defScope s_Sketch_init) [] [("centres", .ref kT12_centres), ("cells", .ref kT12_cells)] f12 _ := ⟨⟨_, _, _, _, _, _, _, _, _, _, rfl, l12, c12, .inl ⟨rfl, rfl⟩, .inr ⟨kD12, rfl, (List.forall_mem_cons.mpr ⟨⟨_, kd12_centres, rfl⟩, (List.forall_mem_cons.mpr ⟨⟨_, kd12_cells, rfl⟩, (fun _ h => nomatch h)⟩)⟩)⟩⟩, k12⟩
  have B_K_Sketch_init_1_centres := FunD.kbinds0 (ps := ["self", "parent", "centres", "cells"]) FD12 2 ["centres"] [("cells", .ref kT12_cells)] (gSel [(true, 0), (false, 0)]) (by simp) (by simp) (fun r1 r2 r3 => gSel_rel [(true, 0), (false, 0)] r1 r2 r3) (fun D doc pm an cdv ct us mv ws h1 h2 h3 => match us, h1, mv, h2, ws, h3 with | [_, _], _, [_], _, [_], _ => ⟨_, _, _, _, _, _, rfl, rfl, rfl⟩)
  have K_Sketch_init_1_centres : MkrK CX0 l.prog w K mg base 1 ((cEnv C0 C1 C2 C3 C4 C5 C6).cls "Sketch") ["self", "parent", "centres", "cells"] (sp_Sketch_init K (cEnv C0 C1 C2 C3 C4 C5 C6)) 1 ["centres"] [.e] [(true, 0), (false, 0)] := B_K_Sketch_init_1_centres.elim fun mv hb => ⟨_, _, _, _, ⟨mk2, a12, i12, kc2⟩, (.cons ⟨_, rfl, sqT_lit kx12_cells .nil (by decide)⟩ .nil), hb, ok_Sketch_init m_tuple F12⟩
  have K_Layout_init : Mkr l.prog w K mg base 1 ((cEnv C0 C1 C2 C3 C4 C5 C6).cls "Layout") ["self", "sketches", "leaves"] (sp_Layout_init K (cEnv C0 C1 C2 C3 C4 C5 C6)) := ⟨_, _, ⟨mk3, a13, i13, kc3⟩, F13.binds (ps := ["self", "sketches", "leaves"]) (fun _ _ _ _ _ _ us hl => match us, hl with | [_, _, _], _ => rfl), ok_Layout_init m_tuple F13⟩
  have M_Codes_layout : Mth l.prog w K mg base 6 ((cEnv C0 C1 C2 C3 C4 C5 C6).cls "Codes") "layout" ["self", "schema", "records"] (sp_Codes_layout K (cEnv C0 C1 C2 C3 C4 C5 C6)) := ⟨_, _, ⟨a14, i14, k14⟩, F14.binds (ps := ["self", "schema", "records"]) (fun _ _ _ _ _ _ us hl => match us, hl with | [_, _, _], _ => rfl), ok_Codes_layout C_Codes C_Sketch C_Layout M_Codes_books D_nearest K_Sketch_init_1_centres K_Layout_init m_zip F14⟩
  have D_is_letter : Dfn l.prog w K mg base 1 "is_letter" ["sign"] (sp_is_letter K) := ⟨_, _, PySem.W.mg_of X G a15, F15.kp, F15.binds (ps := ["sign"]) (fun _ _ _ _ _ _ us hl => match us, hl with | [_], _ => rfl), ok_is_letter F15⟩
  have D_is_digit : Dfn l.prog w K mg base 1 "is_digit" ["sign"] (sp_is_digit K) := ⟨_, _, PySem.W.mg_of X G a16, F16.kp, F16.binds (ps := ["sign"]) (fun _ _ _ _ _ _ us hl => match us, hl with | [_], _ => rfl), ok_is_digit F16⟩
  have D_is_field_name : Dfn l.prog w K mg base 2 "is_field_name" ["name"] (sp_is_field_name K) := ⟨_, _, PySem.W.mg_of X G a17, F17.kp, F17.binds (ps := ["name"]) (fun _ _ _ _ _ _ us hl => match us, hl with | [_], _ => rfl), ok_is_field_name D_is_letter D_is_digit g_WORDS F17⟩
  have FD18 : FunD K "__init__" "Schema.__init__" (defArgs s_Schema_init) (defBody s_Schema_init) (defScope s_Schema_init) [] [("width", (.str "small")), ("measure", (.str "square")), ("fields", .ref kT18_fields)] f18 _ := ⟨⟨_, _, _, _, _, _, _, _, _, _, rfl, l18, c18, .inl ⟨rfl, rfl⟩, .inr ⟨kD18, rfl, (List.forall_mem_cons.mpr ⟨⟨_, kd18_width, ⟨_, rfl⟩⟩, (List.forall_mem_cons.mpr ⟨⟨_, kd18_measure, ⟨_, rfl⟩⟩, (List.forall_mem_cons.mpr ⟨⟨_, kd18_fields, rfl⟩, (fun _ h => nomatch h)⟩)⟩)⟩)⟩⟩, k18⟩
  have B_K_Schema_init_1 := FunD.kbinds0 (ps := ["self", "size", "width", "measure", "fields"]) FD18 2 [] [("width", (.str "small")), ("measure", (.str "square")), ("fields", .ref kT18_fields)] (gSel [(false, 0), (false, 1), (false, 2)]) (by simp) (by simp) (fun r1 r2 r3 => gSel_rel [(false, 0), (false, 1), (false, 2)] r1 r2 r3) (fun D doc pm an cdv ct us mv ws h1 h2 h3 => match us, h1, mv, h2, ws, h3 with | [_, _], _, [_, _, _], _, [], _ => ⟨_, _, _, _, _, _, rfl, rfl, ⟨_, _, _, _, _, _, rfl, rfl, ⟨_, _, _, _, _, _, rfl, rfl, rfl⟩⟩⟩)
  have K_Schema_init_1 : MkrK (L2.CX l.prog w) l.prog w K mg base 3 ((cEnv C0 C1 C2 C3 C4 C5 C6).cls "Schema") ["self", "size", "width", "measure", "fields"] (sp_Schema_init K (cEnv C0 C1 C2 C3 C4 C5 C6)) 1 [] [(.v (.str "small")), (.v (.str "square")), .e] [(false, 0), (false, 1), (false, 2)] := B_K_Schema_init_1.elim fun mv hb => ⟨_, _, _, _, ⟨mk6, a18, i18, kc6⟩, (.cons rfl (.cons rfl (.cons ⟨_, rfl, sqT_lit kx18_fields .nil (by decide)⟩ .nil))), hb, ok_Schema_init E_InvalidSchema D_is_field_name m_tuple g_RANGES g_MEASURES g_KINDS F18⟩
  have D_law_distance : Dfn l.prog w K mg base 1 "_law_distance" ["_law_a", "_law_b"] (sp_law_distance K) := ⟨_, _, PySem.W.mg_of X G a19, F19.kp, F19.binds (ps := ["_law_a", "_law_b"]) (fun _ _ _ _ _ _ us hl => match us, hl with | [_, _], _ => rfl), ok_law_distance m_len m_range F19⟩
  have D_law_nearest : Dfn l.prog w K mg base 2 "_law_nearest" ["_law_centres", "_law_vector"] (sp_law_nearest K) := ⟨_, _, PySem.W.mg_of X G a20, F20.kp, F20.binds (ps := ["_law_centres", "_law_vector"]) (fun _ _ _ _ _ _ us hl => match us, hl with | [_, _], _ => rfl), ok_law_nearest D_law_distance m_len m_range F20⟩
  have D_law_shown : Dfn l.prog w K mg base 1 "_law_shown" ["_law_layout"] (sp_law_shown K (cEnv C0 C1 C2 C3 C4 C5 C6)) := ⟨_, _, PySem.W.mg_of X G a21, F21.kp, F21.binds (ps := ["_law_layout"]) (fun _ _ _ _ _ _ us hl => match us, hl with | [_], _ => rfl), ok_law_shown m_list F21⟩
  exact ok_law C_Record C_Codes C_Schema D_law_next D_law_rows_of K_Record_init_2 K_Codes_init_1_centres_rounds M_Codes_layout K_Schema_init_1 D_train D_law_nearest D_law_shown m_list m_range m_tuple F22
theorem walk {l : PySem.W.OpenLaw} {q : Program} {loose : List Str} {XP : (Str → Option Value) → Heap → Prop} {YP : World → Heap → Prop} {d : DefRec} {K : Params → PySem.W.Frag} (hn : l.most = some 63) (hdf : d.params.defaults = [])
    (hY : ∀ (w : World) (h : Heap), YP w h → (K w.params).In h)
    (F : ∀ (w : World) (mg : Str → Option Value) (fa : Addr) (h : Heap), (K w.params).In h → h.Ns mainGlobals mg → mg d.name = some (.ref fa) →
      ∃ fd : FuncData, (∀ (s : Shared) (u : Value), BindsTo s fd ⟨[u], []⟩ [("_law_script", u)]) ∧ ∀ base : Heap, (K w.params).In base → base.Ns mainGlobals mg → FnOk l.prog w (K w.params) mg base CX0 7 fa fd ["_law_script"] (sp_law (K w.params))) :
    PySem.W.WalkO q loose XP YP l.row.toRowW d [] (fun f vs => PySem.call f vs) :=
  L2.walk_of (n := 63) (k := 7) (x := "_law_script") (CX := fun _ => CX0) (sp := fun w => sp_law (K w.params)) hn (by decide) hdf ⟨rfl, by decide, by decide⟩ hY F (fun _ _ a ns hl _ hS => ⟨a, ns, rfl, hS, hl, fun _ => rfl⟩) fun _ _ _ _ _ z => z
end Z
open PySem PySem.W PyProof.Rows
set_option maxRecDepth 100000 in
set_option maxHeartbeats 0 in
theorem PySem.Challenge.cw_surenear_k31_codes_holds : PySem.Challenge.rw_surenear_k31_codes.Holds := by
  w_on; o_law; k_head; (case hw => w_witness2)
  k_fill
  refine Z.walk (l := PySem.Challenge.rw_surenear_k31_codes) rfl rfl (fun w h Y => PySem.W.kIn_of Y) ?F
  case F =>
    intro w mg fa h KX G hmg
    refine' Z.all_mk KX G hmg ?b0 ?xq0 ?kc0 ?xb0 ?xt0 ?b1 ?pg1 ?hd1 ?po1 ?sa1 ?ha1 ?hm1 ?mk1 ?kc1 ?n1_0 ?n1_1 ?n1_2 ?b2 ?pg2 ?hd2 ?po2 ?sa2 ?ha2 ?hm2 ?mk2 ?kc2 ?n2_0 ?n2_1 ?n2_2 ?b3 ?pg3 ?hd3 ?po3 ?sa3 ?ha3 ?hm3 ?mk3 ?kc3 ?n3_0 ?n3_1 ?b4 ?xq4 ?kc4 ?xb4 ?xt4 ?b5 ?pg5 ?hd5 ?po5 ?sa5 ?ha5 ?hm5 ?mk5 ?kc5 ?n5_0 ?n5_1 ?n5_2 ?n5_3 ?b6 ?pg6 ?hd6 ?po6 ?sa6 ?ha6 ?hm6 ?mk6 ?kc6 ?n6_0 ?n6_1 ?n6_2 ?n6_3 ?hn ?htk ?a0 ?l0 ?c0 ?k0 ?a1 ?l1 ?c1 ?k1 ?a2 ?l2 ?c2 ?k2 ?a3 ?i3 ?l3 ?c3 ?k3 ?a4 ?l4 ?c4 ?k4 ?a5 ?i5 ?l5 ?c5 ?k5 ?a6 ?l6 ?c6 ?k6 ?a7 ?l7 ?c7 ?k7 ?a8 ?l8 ?c8 ?k8 ?a9 ?l9 ?c9 ?k9 ?a10 ?l10 ?c10 ?k10 ?a11 ?i11 ?l11 ?c11 ?k11 ?a12 ?i12 ?l12 ?c12 ?k12 ?a13 ?i13 ?l13 ?c13 ?k13 ?a14 ?i14 ?l14 ?c14 ?k14 ?a15 ?l15 ?c15 ?k15 ?a16 ?l16 ?c16 ?k16 ?a17 ?l17 ?c17 ?k17 ?a18 ?i18 ?l18 ?c18 ?k18 ?a19 ?l19 ?c19 ?k19 ?a20 ?l20 ?c20 ?k20 ?a21 ?l21 ?c21 ?k21 ?a22 ?l22 ?c22 ?k22 ?kd3_fields ?kx3_fields ?kd3_words ?kx3_words ?kd5_rounds ?kd12_centres ?kx12_centres ?kd12_cells ?kx12_cells ?kd18_width ?kd18_measure ?kd18_fields ?kx18_fields ?z0 ?z1 ?z2 ?z3 ?z4 ?z5 ?z6 ?z7 ?z8 ?z9 ?kg0 ?kl0 ?kg1 ?kl1 ?kk1 ?ko1 ?kw1_0 ?kw1_1 ?kw1_2 ?kg2 ?kl2 ?kg3 ?kl3
    (case b0 => k_is)
    (case xq0 => k_exc)
    (case kc0 => k_is)
    (case xb0 => k_is)
    (case xt0 => k_is)
    (case b1 => k_is)
    (case pg1 => k_is)
    (case hd1 => k_is)
    (case po1 => k_is)
    (case sa1 => k_is)
    (case ha1 => k_is)
    (case hm1 => k_is)
    (case mk1 => k_is)
    (case kc1 => k_is)
    (case n1_0 => k_is)
    (case n1_1 => k_is)
    (case n1_2 => k_is)
    (case b2 => k_is)
    (case pg2 => k_is)
    (case hd2 => k_is)
    (case po2 => k_is)
    (case sa2 => k_is)
    (case ha2 => k_is)
    (case hm2 => k_is)
    (case mk2 => k_is)
    (case kc2 => k_is)
    (case n2_0 => k_is)
    (case n2_1 => k_is)
    (case n2_2 => k_is)
    (case b3 => k_is)
    (case pg3 => k_is)
    (case hd3 => k_is)
    (case po3 => k_is)
    (case sa3 => k_is)
    (case ha3 => k_is)
    (case hm3 => k_is)
    (case mk3 => k_is)
    (case kc3 => k_is)
    (case n3_0 => k_is)
    (case n3_1 => k_is)
    (case b4 => k_is)
    (case xq4 => k_exc)
    (case kc4 => k_is)
    (case xb4 => k_is)
    (case xt4 => k_is)
    (case b5 => k_is)
    (case pg5 => k_is)
    (case hd5 => k_is)
    (case po5 => k_is)
    (case sa5 => k_is)
    (case ha5 => k_is)
    (case hm5 => k_is)
    (case mk5 => k_is)
    (case kc5 => k_is)
    (case n5_0 => k_is)
    (case n5_1 => k_is)
    (case n5_2 => k_is)
    (case n5_3 => k_is)
    (case b6 => k_is)
    (case pg6 => k_is)
    (case hd6 => k_is)
    (case po6 => k_is)
    (case sa6 => k_is)
    (case ha6 => k_is)
    (case hm6 => k_is)
    (case mk6 => k_is)
    (case kc6 => k_is)
    (case n6_0 => k_is)
    (case n6_1 => k_is)
    (case n6_2 => k_is)
    (case n6_3 => k_is)
    (case hn => k_is)
    (case htk => k_is)
    (case a0 => k_is)
    (case l0 => k_is)
    (case c0 => k_is)
    (case k0 => k_is)
    (case a1 => k_is)
    (case l1 => k_is)
    (case c1 => k_is)
    (case k1 => k_is)
    (case a2 => k_is)
    (case l2 => k_is)
    (case c2 => k_is)
    (case k2 => k_is)
    (case a3 => k_is)
    (case i3 => k_is)
    (case l3 => k_is)
    (case c3 => k_is)
    (case k3 => k_is)
    (case a4 => k_is)
    (case l4 => k_is)
    (case c4 => k_is)
    (case k4 => k_is)
    (case a5 => k_is)
    (case i5 => k_is)
    (case l5 => k_is)
    (case c5 => k_is)
    (case k5 => k_is)
    (case a6 => k_is)
    (case l6 => k_is)
    (case c6 => k_is)
    (case k6 => k_is)
    (case a7 => k_is)
    (case l7 => k_is)
    (case c7 => k_is)
    (case k7 => k_is)
    (case a8 => k_is)
    (case l8 => k_is)
    (case c8 => k_is)
    (case k8 => k_is)
    (case a9 => k_is)
    (case l9 => k_is)
    (case c9 => k_is)
    (case k9 => k_is)
    (case a10 => k_is)
    (case l10 => k_is)
    (case c10 => k_is)
    (case k10 => k_is)
    (case a11 => k_is)
    (case i11 => k_is)
    (case l11 => k_is)
    (case c11 => k_is)
    (case k11 => k_is)
    (case a12 => k_is)
    (case i12 => k_is)
    (case l12 => k_is)
    (case c12 => k_is)
    (case k12 => k_is)
    (case a13 => k_is)
    (case i13 => k_is)
    (case l13 => k_is)
    (case c13 => k_is)
    (case k13 => k_is)
    (case a14 => k_is)
    (case i14 => k_is)
    (case l14 => k_is)
    (case c14 => k_is)
    (case k14 => k_is)
    (case a15 => k_is)
    (case l15 => k_is)
    (case c15 => k_is)
    (case k15 => k_is)
    (case a16 => k_is)
    (case l16 => k_is)
    (case c16 => k_is)
    (case k16 => k_is)
    (case a17 => k_is)
    (case l17 => k_is)
    (case c17 => k_is)
    (case k17 => k_is)
    (case a18 => k_is)
    (case i18 => k_is)
    (case l18 => k_is)
    (case c18 => k_is)
    (case k18 => k_is)
    (case a19 => k_is)
    (case l19 => k_is)
    (case c19 => k_is)
    (case k19 => k_is)
    (case a20 => k_is)
    (case l20 => k_is)
    (case c20 => k_is)
    (case k20 => k_is)
    (case a21 => k_is)
    (case l21 => k_is)
    (case c21 => k_is)
    (case k21 => k_is)
    (case a22 => k_is)
    (case l22 => k_is)
    (case c22 => k_is)
    (case k22 => k_is)
    (case kd3_fields => k_is)
    (case kx3_fields => k_is)
    (case kd3_words => k_is)
    (case kx3_words => k_is)
    (case kd5_rounds => k_is)
    (case kd12_centres => k_is)
    (case kx12_centres => k_is)
    (case kd12_cells => k_is)
    (case kx12_cells => k_is)
    (case kd18_width => k_is)
    (case kd18_measure => k_is)
    (case kd18_fields => k_is)
    (case kx18_fields => k_is)
    (case z0 => k_is)
    (case z1 => k_is)
    (case z2 => k_is)
    (case z3 => k_is)
    (case z4 => k_is)
    (case z5 => k_is)
    (case z6 => k_is)
    (case z7 => k_is)
    (case z8 => k_is)
    (case z9 => k_is)
    (case kg0 => k_is)
    (case kl0 => k_is)
    (case kg1 => k_is)
    (case kl1 => k_is)
    (case kk1 => k_keys)
    (case ko1 => decide)
    (case kw1_0 => k_is)
    (case kw1_1 => k_is)
    (case kw1_2 => k_is)
    (case kg2 => k_is)
    (case kl2 => k_is)
    (case kg3 => k_is)
    (case kl3 => k_is)

