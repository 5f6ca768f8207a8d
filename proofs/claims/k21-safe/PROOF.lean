import PyProof.Rows.All
import Wide.All
import OpenK.AllK
import Wide.FinOn
import HandS.ForExc
import HandS.ForMost
import HandS.Wide
import HandS.IsInst
import HandS.TupAny
import HandS.Flow
import HandS.Codes
import HandS.Zip
import HandS.TupLe
import HandS.Property
import HandS.OwnEq
import KE.GoesMore
import HandS.Defaults
import HandS.MakeKwOnly
import HandS.More
import HandS.TryMany
import HandS.RaiseMore
import KE.GoesNew
import PySem.Challenge.RW_surenear_k21_bounds_of_vectors_are_safe
set_option Elab.async false
set_option linter.all false
set_option maxRecDepth 100000
set_option maxHeartbeats 4000000
set_option exponentiation.threshold 100000
namespace Z
open PySem PySem.Spec L2
open C8 (tCut pss_cut)
/-! Z: one rule a construct, whatever the kinds of its values; and the steps of a reading. -/

/-! ### operators by the kinds of their values -/
def MulOk (i j : Int) : Prop := CMul i j ∨ CMulW i j
def uAdd (K : PySem.W.Frag) : R2 := fun x y H Q => match x, y with
  | .int i, .int j => Q (.int (i + j)) H
  | .str a, .str b => a.length + b.length ≤ sizeLine ∧ Q (.str (a ++ b)) H
  | .ref l, .ref b => rCat (.ref l) (.ref b) H Q ∨ rCatA K (.ref l) (.ref b) H Q
  | _, _ => False
def uSub : R2 := fun x y H Q => match x, y with
  | .int i, .int j => Q (.int (i - j)) H
  | _, _ => False
def uMul : R2 := fun x y H Q => match x, y with
  | .int i, .int j => MulOk i j ∧ Q (.int (i * j)) H
  | _, _ => False
def uDiv : R2 := fun x y H Q => match x, y with
  | .int i, .int j => CDivW i j ∧ Q (.int (i / j)) H
  | _, _ => False
def uMod : R2 := fun x y H Q => match x, y with
  | .int i, .int j => 0 < j ∧ Q (.int (i % j)) H
  | _, _ => False
def uPow : R2 := fun x y H Q => match x, y with
  | .int i, .int j => CPow i j ∧ Q (.int (i ^ j.toNat)) H
  | _, _ => False
def uNeg : V → Hp → VK → Prop := fun x H Q => match x with
  | .int i => Q (.int (-i)) H
  | _ => False
/-! tuples of numbers and texts, one before the other -/
def ltV1 : V → V → Bool
  | .int i, .int j => decide (i < j)
  | .str a, .str b => decide (a.cps.toList < b.cps.toList)
  | _, _ => false
def same1 : V → V → Bool
  | .int _, .int _ => true
  | .str _, .str _ => true
  | _, _ => false
def ltV2 (xs ys : List V) (j : Nat) : Bool := match xs[j]?, ys[j]? with | some u, some v => ltV1 u v | _, _ => false
def rLtP (K : PySem.W.Frag) (a b : Addr) (H : Hp) (Q : VK) : Prop := ∃ xs ys : List V, SqT K H a xs ∧ SqT K H b ys ∧ (∀ (j : Nat) (u v : V), xs[j]? = some u → ys[j]? = some v → same1 u v = true) ∧
  Q (.bl (Ob.lexAt (fun j => decide (xs[j]? = ys[j]?)) (ltV2 xs ys) (decide (xs.length < ys.length)) 0 (min xs.length ys.length))) H
def uLt (K : PySem.W.Frag) : R2 := fun x y H Q => match x, y with
  | .int i, .int j => Q (.bl (decide (i < j))) H
  | .str i, .str j => Q (.bl (decide (i.cps.toList < j.cps.toList))) H
  | .ref a, .ref b => rLtT K (.ref a) (.ref b) H Q ∨ rLtP K a b H Q
  | _, _ => False
def uLe : R2 := fun x y H Q => match x, y with
  | .int i, .int j => Q (.bl (decide (i ≤ j))) H
  | .str i, .str j => Q (.bl (!decide (j.cps.toList < i.cps.toList))) H
  | _, _ => False
def uGt : R2 := fun x y H Q => match x, y with
  | .int i, .int j => Q (.bl (decide (j < i))) H
  | .str i, .str j => Q (.bl (decide (j.cps.toList < i.cps.toList))) H
  | _, _ => False
def uGe : R2 := fun x y H Q => match x, y with
  | .int i, .int j => Q (.bl (decide (j ≤ i))) H
  | .str i, .str j => Q (.bl (!decide (i.cps.toList < j.cps.toList))) H
  | _, _ => False
/-! ### == of lists and tuples, place by place; the same object is equal to itself -/
def sameSq (K : PySem.W.Frag) (H : Hp) (a c : Addr) (xs ys : List V) : Prop := (SqT K H a xs ∧ SqT K H c ys) ∨ (SqL K H a xs ∧ SqL K H c ys)
def allB (xs ys : List V) (e : Nat → Bool) : Bool := (List.range (min xs.length ys.length)).all e && (xs.length == ys.length)
def EqB (K : PySem.W.Frag) (H : Hp) : Nat → V → V → Bool → Prop
  | 0 => fun x y b => (flatV x = true ∧ flatV y = true ∧ b = eqV x y) ∨ (∃ a, x = .ref a ∧ y = .ref a ∧ b = true)
  | n + 1 => fun x y b => EqB K H n x y b ∨ ∃ a c xs ys e, x = .ref a ∧ y = .ref c ∧ sameSq K H a c xs ys ∧ (∀ (i : Nat) (x y : V), xs[i]? = some x → ys[i]? = some y → EqB K H n x y (e i)) ∧ b = allB xs ys e
def rSqB (K : PySem.W.Frag) (a c : Addr) (H : Hp) (Q : Bool → Prop) : Prop := ∃ n xs ys e, n ≤ 16 ∧ sameSq K H a c xs ys ∧ (∀ (i : Nat) (x y : V), xs[i]? = some x → ys[i]? = some y → EqB K H n x y (e i)) ∧ Q (allB xs ys e)
theorem sq_both {X : Cx} {pins : List (Addr × Obj)} {σ : L2.St} {H : Hp} {s : Shared} {A : Around} {a c : Addr} {xs ys : List V} {e : Nat → Bool} (I : Inv X pins σ H s) (hu : A.units < cLine) (h : sameSq X.K H a c xs ys)
    (he : ∀ (i : Nat) (x y : V), xs[i]? = some x → ys[i]? = some y → ∀ u v, RelV x u → RelV y v → SeqAt.EqAt A.in1 s u v (e i)) : SeqAt.RcAt A s (.ref a) (.ref c) (allB xs ys e) ∧ SeqAt.RcNeAt A s (.ref a) (.ref c) (!allB xs ys e) := by
  have items : ∀ {us vs : List Value}, Vals xs us → Vals ys vs → ∀ (j : Nat) (h1 : j < us.toArray.size) (h2 : j < vs.toArray.size), SeqAt.EqAt A.in1 s us.toArray[j] vs.toArray[j] (e j) := by
    intro us vs r1 r2 j h1 h2
    have l1 := r1.length
    have l2 := r2.length
    have k1 : j < us.length := by simpa using h1
    have k2 : j < vs.length := by simpa using h2
    obtain ⟨u, eu, ru⟩ := Vals.get r1 (List.getElem?_eq_getElem (show j < xs.length by omega))
    obtain ⟨v, ev, rv⟩ := Vals.get r2 (List.getElem?_eq_getElem (show j < ys.length by omega))
    have z1 : us.toArray[j] = u := by rw [List.getElem?_eq_getElem k1] at eu; simpa using Option.some.inj eu
    have z2 : vs.toArray[j] = v := by rw [List.getElem?_eq_getElem k2] at ev; simpa using Option.some.inj ev
    rw [z1, z2]
    exact he j _ _ (List.getElem?_eq_getElem (show j < xs.length by omega)) (List.getElem?_eq_getElem (show j < ys.length by omega)) u v ru rv
  rcases h with ⟨ha, hc⟩ | ⟨ha, hc⟩
  · obtain ⟨us, r1, p1, _⟩ := I.tuple ha
    obtain ⟨vs, r2, p2, _⟩ := I.tuple hc
    have z : ((List.range (min us.toArray.size vs.toArray.size)).all e && us.toArray.size == vs.toArray.size) = allB xs ys e := by
      unfold allB
      rw [show us.toArray.size = xs.length by simpa using r1.length.symm, show vs.toArray.size = ys.length by simpa using r2.length.symm]
    refine ⟨?_, ?_⟩
    · rw [← z]; exact SeqAt.RcAt.tuples p1 p2 hu (items r1 r2)
    · rw [← z]; exact SeqAt.RcNeAt.tuples p1 p2 hu (items r1 r2)
  · obtain ⟨us, r1, p1, _⟩ := I.list ha
    obtain ⟨vs, r2, p2, _⟩ := I.list hc
    have n1 : us.toArray.size = xs.length := by simpa using r1.length.symm
    have n2 : vs.toArray.size = ys.length := by simpa using r2.length.symm
    by_cases hl : xs.length = ys.length
    · have z : (List.range us.toArray.size).all e = allB xs ys e := by
        unfold allB
        rw [n1, hl, Nat.min_self, beq_self_eq_true, Bool.and_true]
      refine ⟨?_, ?_⟩
      · rw [← z]; exact SeqAt.RcAt.lists p1.isList p2.isList (by omega) hu (items r1 r2)
      · rw [← z]; exact SeqAt.RcNeAt.lists p1.isList p2.isList (by omega) hu (items r1 r2)
    · have z : allB xs ys e = false := by unfold allB; simp [hl]
      have ne : (us.toArray.size != vs.toArray.size) = true := by rw [n1, n2]; simpa using hl
      rw [z]
      exact ⟨SeqAt.RcAt.lists_lengths p1.isList p2.isList ne hu, SeqAt.RcNeAt.lists_lengths p1.isList p2.isList ne hu⟩
theorem EqB.det {X : Cx} {pins : List (Addr × Obj)} {σ : L2.St} {H : Hp} {s : Shared} (I : Inv X pins σ H s) : ∀ (n : Nat) (x : V) (b : Bool), EqB X.K H n x x b → b = true
  | 0, x, b, h => by
    rcases h with ⟨fx, _, rfl⟩ | ⟨a, _, _, rfl⟩
    · cases x <;> first | (cases fx; done) | (simp [eqV]; done)
    · rfl
  | n + 1, x, b, h => by
    rcases h with h | ⟨a, c, xs, ys, e, rfl, e2, hs, he, rfl⟩
    · exact EqB.det I n x b h
    · cases e2
      have z : xs = ys := by
        rcases hs with ⟨h1, h2⟩ | ⟨h1, h2⟩
        · exact I.tuple_inj h1 h2
        · exact I.list_inj h1 h2
      subst z
      unfold allB
      rw [Nat.min_self, beq_self_eq_true, Bool.and_true, List.all_eq_true]
      intro i hi
      have hi := List.mem_range.mp hi
      exact EqB.det I n _ _ (he i _ _ (List.getElem?_eq_getElem hi) (List.getElem?_eq_getElem hi))
theorem EqB.at {X : Cx} {pins : List (Addr × Obj)} {σ : L2.St} {H : Hp} {s : Shared} (I : Inv X pins σ H s) : ∀ (n : Nat) (x y : V) (b : Bool) (u v : Value) (A : Around), A.units + n < cLine → EqB X.K H n x y b → RelV x u → RelV y v → SeqAt.EqAt A s u v b
  | 0, x, y, b, u, v, A, _, h, rx, ry => by
    rcases h with ⟨fx, fy, rfl⟩ | ⟨a, rfl, rfl, rfl⟩
    · exact eqAt_V rx ry fx fy
    · cases rx; cases ry; exact SeqAt.EqAt.same _
  | n + 1, x, y, b, u, v, A, hu, h, rx, ry => by
    rcases h with h | ⟨a, c, xs, ys, e, rfl, rfl, hs, he, hb⟩
    · exact EqB.at I n x y b u v A (by omega) h rx ry
    · cases rx; cases ry
      by_cases q : a = c
      · subst q
        rw [EqB.det I (n + 1) (.ref a) b (.inr ⟨a, a, xs, ys, e, rfl, rfl, hs, he, hb⟩)]; exact SeqAt.EqAt.same _
      · rw [hb]
        refine SeqAt.EqAt.of_refs q (sq_both I (by omega) hs fun i x y e1 e2 u v r1 r2 => EqB.at I n x y (e i) u v A.in1 ?_ (he i x y e1 e2) r1 r2).1
        show A.units + 1 + n < cLine
        omega
theorem op_sqB {X : Cx} (hu : X.A.units + 64 < cLine) {pins : List (Addr × Obj)} {σ : L2.St} {H : Hp} {s : Shared} {a c : Addr} {Q : VK} (I : Inv X pins σ H s) :
    (rSqB X.K a c H (fun b => Q (.bl b) H) → wpAny (model X.prog X.w) X.A (compareOp .Eq (.ref a) (.ref c)) (EP X pins σ Q) X.xe s) ∧ (rSqB X.K a c H (fun b => Q (.bl (!b)) H) → wpAny (model X.prog X.w) X.A (compareOp .NotEq (.ref a) (.ref c)) (EP X pins σ Q) X.xe s) := by
  have key : ∀ {n : Nat} {xs ys : List V} {e : Nat → Bool}, n ≤ 16 → sameSq X.K H a c xs ys → (∀ (i : Nat) (x y : V), xs[i]? = some x → ys[i]? = some y → EqB X.K H n x y (e i)) → _ := fun {n xs ys e} hn hs he => sq_both (A := X.A) I (by omega) hs fun i x y e1 e2 u v r1 r2 => EqB.at I n x y (e i) u v X.A.in1 (by show X.A.units + 1 + n < cLine; omega) (he i x y e1 e2) r1 r2
  refine ⟨fun ⟨n, xs, ys, e, hn, hs, he, q⟩ => ?_, fun ⟨n, xs, ys, e, hn, hs, he, q⟩ => ?_⟩
  · exact (key hn hs he).1 X.prog X.w X.xe _ ⟨.bl _, H, I, rfl, q⟩
  · exact (key hn hs he).2 X.prog X.w X.xe _ ⟨.bl _, H, I, rfl, q⟩
def uEq (K : PySem.W.Frag) : R2 := fun x y H Q => match x, y with
  | .int i, .int j => Q (.bl (decide (i = j))) H
  | .str i, .str j => Q (.bl (decide (i = j))) H
  | .bl i, .bl j => Q (.bl (decide (i = j))) H
  | .non, .non => Q (.bl true) H
  | .ref a, .ref b => rEqD K (.ref a) (.ref b) H Q ∨ rSqB K a b H (fun k => Q (.bl k) H)
  | x, y => (scal x y = true ∧ Q (.bl (decide (x = y))) H) ∨ rEqD K x y H Q
def uNe (K : PySem.W.Frag) : R2 := fun x y H Q => match x, y with
  | .int i, .int j => Q (.bl (!decide (i = j))) H
  | .str i, .str j => Q (.bl (!decide (i = j))) H
  | .bl i, .bl j => Q (.bl (!decide (i = j))) H
  | .non, .non => Q (.bl false) H
  | .ref a, .ref b => rNeD K (.ref a) (.ref b) H Q ∨ rSqB K a b H (fun k => Q (.bl (!k)) H)
  | x, y => (scal x y = true ∧ Q (.bl (!decide (x = y))) H) ∨ rNeD K x y H Q
def uIs : R2 := fun x y H Q => match x, y with
  | x, .non => Q (.bl (decide (x = .non))) H
  | .bl a, .bl b => Q (.bl (decide (a = b))) H
  | _, _ => False
def uIsNot : R2 := fun x y H Q => match x, y with
  | x, .non => Q (.bl (!decide (x = .non))) H
  | .bl a, .bl b => Q (.bl (!decide (a = b))) H
  | _, _ => False
def uIn (K : PySem.W.Frag) : R2 := fun x y H Q => match x, y with
  | .str i, .str j => Q (.bl (!(Builtin.Str.occurrences j i 0 j.length 1).isEmpty)) H
  | x, y => rIn K false x y H Q
def uNotIn (K : PySem.W.Frag) : R2 := fun x y H Q => match x, y with
  | .str i, .str j => Q (.bl (!(!(Builtin.Str.occurrences j i 0 j.length 1).isEmpty))) H
  | x, y => rIn K true x y H Q

section
variable {X : Cx}
theorem op_uAdd : OpR X (binaryOp .Add) (uAdd X.K) := by
  intro pins s σ H x y v u Q I rx ry h
  cases x <;> cases y <;> first | exact h.elim | skip
  · exact op_add pins s σ H _ _ _ _ Q I rx ry ⟨_, _, rfl, rfl, h⟩
  · exact op_add_str pins s σ H _ _ _ _ Q I rx ry ⟨_, _, rfl, rfl, h.1, h.2⟩
  · rcases h with h | h
    · exact op_cat pins s σ H _ _ _ _ Q I rx ry h
    · exact op_catA pins s σ H _ _ _ _ Q I rx ry h
theorem op_uSub : OpR X (binaryOp .Sub) uSub := by
  intro pins s σ H x y v u Q I rx ry h
  cases x <;> cases y <;> first | exact h.elim | skip
  exact op_sub pins s σ H _ _ _ _ Q I rx ry ⟨_, _, rfl, rfl, h⟩
theorem op_uMul : OpR X (binaryOp .Mult) uMul := by
  intro pins s σ H x y v u Q I rx ry h
  cases x <;> cases y <;> first | exact h.elim | skip
  rcases h with ⟨h | h, q⟩
  · exact op_mul pins s σ H _ _ _ _ Q I rx ry ⟨_, _, rfl, rfl, h, q⟩
  · exact op_mulW pins s σ H _ _ _ _ Q I rx ry ⟨_, _, rfl, rfl, h, q⟩
theorem op_uDiv : OpR X (binaryOp .FloorDiv) uDiv := by
  intro pins s σ H x y v u Q I rx ry h
  cases x <;> cases y <;> first | exact h.elim | skip
  exact op_fdivW pins s σ H _ _ _ _ Q I rx ry ⟨_, _, rfl, rfl, h.1, h.2⟩
theorem op_uMod : OpR X (binaryOp .Mod) uMod := by
  intro pins s σ H x y v u Q I rx ry h
  cases x <;> cases y <;> first | exact h.elim | skip
  exact op_mod pins s σ H _ _ _ _ Q I rx ry ⟨_, _, rfl, rfl, h.1, h.2⟩
theorem op_uPow : OpR X (binaryOp .Pow) uPow := by
  intro pins s σ H x y v u Q I rx ry h
  cases x <;> cases y <;> first | exact h.elim | skip
  exact op_pow pins s σ H _ _ _ _ Q I rx ry ⟨_, _, rfl, rfl, h.1, h.2⟩
theorem un_uNeg : UnR X (unaryOp .USub) uNeg := by
  intro pins s σ H x v Q I rx h
  cases x <;> first | exact h.elim | skip
  exact un_neg pins s σ H _ _ Q I rx ⟨_, rfl, h⟩
theorem op_ltP (hu : X.A.units < cLine) {pins : List (Addr × Obj)} {s : Shared} {σ : L2.St} {H : Hp} {a b : Addr} {Q : VK} (I : Inv X pins σ H s) (h : rLtP X.K a b H Q) :
    wpAny (model X.prog X.w) X.A (compareOp .Lt (.ref a) (.ref b)) (EP X pins σ Q) X.xe s := by
  obtain ⟨xs, ys, ha, hb, hk, q⟩ := h
  obtain ⟨us, r1, p1, _⟩ := I.tuple ha
  obtain ⟨vs, r2, p2, _⟩ := I.tuple hb
  have l1 := r1.length
  have l2 := r2.length
  have both : ∀ (j : Nat) (h1 : j < us.toArray.size) (h2 : j < vs.toArray.size), ∃ x y : V, xs[j]? = some x ∧ ys[j]? = some y ∧ RelV x us.toArray[j] ∧ RelV y vs.toArray[j] := by
    intro j h1 h2
    have k1 : j < us.length := by simpa using h1
    have k2 : j < vs.length := by simpa using h2
    obtain ⟨u, eu, ru⟩ := Vals.get r1 (List.getElem?_eq_getElem (show j < xs.length by omega))
    obtain ⟨v, ev, rv⟩ := Vals.get r2 (List.getElem?_eq_getElem (show j < ys.length by omega))
    refine ⟨_, _, List.getElem?_eq_getElem (show j < xs.length by omega), List.getElem?_eq_getElem (show j < ys.length by omega), ?_, ?_⟩
    · rw [List.getElem?_eq_getElem k1] at eu
      have : us.toArray[j] = u := by simpa using Option.some.inj eu
      rw [this]; exact ru
    · rw [List.getElem?_eq_getElem k2] at ev
      have : vs.toArray[j] = v := by simpa using Option.some.inj ev
      rw [this]; exact rv
  have R := Ob.RcOp.tuples_lt (A := X.A) (s := s) (e := fun j => decide (xs[j]? = ys[j]?)) (r := ltV2 xs ys) p1 p2 hu (fun j h1 h2 => by
    obtain ⟨x, y, ex, ey, rx, ry⟩ := both j h1 h2
    have k := hk j x y ex ey
    rw [ex, ey]
    cases x <;> cases y <;> first | exact Bool.noConfusion (show false = true from k) | skip
    · rename_i i i'
      obtain ⟨t, et⟩ := rx
      obtain ⟨t', et'⟩ := ry
      rw [et, et', show decide (some (V.int i) = some (V.int i')) = (i == i') by rw [Bool.eq_iff_iff]; simp]
      exact SeqAt.EqAt.int_int _ _ _ _
    · rename_i i i'
      obtain ⟨t, et⟩ := rx
      obtain ⟨t', et'⟩ := ry
      rw [et, et', show decide (some (V.str i) = some (V.str i')) = (i == i') by rw [Bool.eq_iff_iff]; simp]
      exact SeqAt.EqAt.str_str _ _ _ _) (fun j h1 h2 _ => by
    obtain ⟨x, y, ex, ey, rx, ry⟩ := both j h1 h2
    have k := hk j x y ex ey
    rw [show ltV2 xs ys j = ltV1 x y by unfold ltV2; rw [ex, ey]]
    cases x <;> cases y <;> first | exact Bool.noConfusion (show false = true from k) | skip
    · obtain ⟨t, et⟩ := rx
      obtain ⟨t', et'⟩ := ry
      rw [et, et']
      exact Ob.RcOp.lt_int _ _ _ _
    · obtain ⟨t, et⟩ := rx
      obtain ⟨t', et'⟩ := ry
      rw [et, et']
      exact fun _ _ _ _ h => PyProof.Rows.lt_str (by simpa [ltV1] using h))
  rw [show us.toArray.size = xs.length by simpa using l1.symm, show vs.toArray.size = ys.length by simpa using l2.symm] at R
  exact R X.prog X.w X.xe (EP X pins σ Q) ⟨.bl _, H, I, rfl, q⟩
theorem op_uLt (hu : X.A.units + 64 < cLine) : OpR X (compareOp .Lt) (uLt X.K) := by
  intro pins s σ H x y v u Q I rx ry h
  cases x <;> cases y <;> first | exact h.elim | skip
  · exact op_lt pins s σ H _ _ _ _ Q I rx ry ⟨_, _, rfl, rfl, h⟩
  · exact op_lt_str pins s σ H _ _ _ _ Q I rx ry ⟨_, _, rfl, rfl, h⟩
  · rcases h with h | h
    · exact op_ltT (by omega) pins s σ H _ _ _ _ Q I rx ry h
    · cases rx; cases ry; exact op_ltP (by omega) I h
theorem op_uLe : OpR X (compareOp .LtE) uLe := by
  intro pins s σ H x y v u Q I rx ry h
  cases x <;> cases y <;> first | exact h.elim | skip
  · exact op_le pins s σ H _ _ _ _ Q I rx ry ⟨_, _, rfl, rfl, h⟩
  · exact op_le_str pins s σ H _ _ _ _ Q I rx ry ⟨_, _, rfl, rfl, h⟩
theorem op_uGt : OpR X (compareOp .Gt) uGt := by
  intro pins s σ H x y v u Q I rx ry h
  cases x <;> cases y <;> first | exact h.elim | skip
  · exact op_gt pins s σ H _ _ _ _ Q I rx ry ⟨_, _, rfl, rfl, h⟩
  · exact op_gt_str pins s σ H _ _ _ _ Q I rx ry ⟨_, _, rfl, rfl, h⟩
theorem op_uGe : OpR X (compareOp .GtE) uGe := by
  intro pins s σ H x y v u Q I rx ry h
  cases x <;> cases y <;> first | exact h.elim | skip
  · exact op_ge pins s σ H _ _ _ _ Q I rx ry ⟨_, _, rfl, rfl, h⟩
  · exact op_ge_str pins s σ H _ _ _ _ Q I rx ry ⟨_, _, rfl, rfl, h⟩
theorem V_int_dec {i j : Int} : decide (V.int i = V.int j) = decide (i = j) := by
  rw [Bool.eq_iff_iff]; simp
theorem V_str_dec {i j : Str} : decide (V.str i = V.str j) = decide (i = j) := by
  rw [Bool.eq_iff_iff]; simp
theorem V_bl_dec {i j : Bool} : decide (V.bl i = V.bl j) = decide (i = j) := by
  rw [Bool.eq_iff_iff]; simp
theorem op_uEq (hu : X.A.units + 64 < cLine) : OpR X (compareOp .Eq) (uEq X.K) := by
  intro pins s σ H x y v u Q I rx ry h
  have gen : (scal x y = true ∧ Q (.bl (decide (x = y))) H) ∨ rEqD X.K x y H Q → _ := fun z => (op_eq.or (op_eqD hu)) pins s σ H x y v u Q I rx ry z
  cases x <;> cases y <;> first | exact gen h | skip
  · exact gen (.inl ⟨rfl, h⟩)
  · exact gen (.inl ⟨rfl, by rw [V_bl_dec]; exact h⟩)
  · exact gen (.inl ⟨rfl, by rw [V_int_dec]; exact h⟩)
  · exact gen (.inl ⟨rfl, by rw [V_str_dec]; exact h⟩)
  · rcases h with h | h
    · exact gen (.inr h)
    · cases rx; cases ry; exact (op_sqB hu I).1 h
theorem op_uNe (hu : X.A.units + 64 < cLine) : OpR X (compareOp .NotEq) (uNe X.K) := by
  intro pins s σ H x y v u Q I rx ry h
  have gen : (scal x y = true ∧ Q (.bl (!decide (x = y))) H) ∨ rNeD X.K x y H Q → _ := fun z => (op_ne.or (op_neD hu)) pins s σ H x y v u Q I rx ry z
  cases x <;> cases y <;> first | exact gen h | skip
  · exact gen (.inl ⟨rfl, h⟩)
  · exact gen (.inl ⟨rfl, by rw [V_bl_dec]; exact h⟩)
  · exact gen (.inl ⟨rfl, by rw [V_int_dec]; exact h⟩)
  · exact gen (.inl ⟨rfl, by rw [V_str_dec]; exact h⟩)
  · rcases h with h | h
    · exact gen (.inr h)
    · cases rx; cases ry; exact (op_sqB hu I).2 h
theorem op_uIs : OpR X (compareOp .Is) uIs := by
  intro pins s σ H x y v u Q I rx ry h
  cases y <;> first | (cases x <;> exact h.elim) | skip
  · exact op_isN pins s σ H _ _ _ _ Q I rx ry ⟨rfl, by cases x <;> exact h⟩
  · cases x <;> first | exact h.elim | skip
    exact op_is_bl pins s σ H _ _ _ _ Q I rx ry ⟨_, _, rfl, rfl, h⟩
theorem op_uIsNot : OpR X (compareOp .IsNot) uIsNot := by
  intro pins s σ H x y v u Q I rx ry h
  cases y <;> first | (cases x <;> exact h.elim) | skip
  · exact op_notN pins s σ H _ _ _ _ Q I rx ry ⟨rfl, by cases x <;> exact h⟩
  · cases x <;> first | exact h.elim | skip
    exact op_isnot_bl pins s σ H _ _ _ _ Q I rx ry ⟨_, _, rfl, rfl, h⟩
theorem op_uIn : OpR X (compareOp .In) (uIn X.K) := by
  intro pins s σ H x y v u Q I rx ry h
  cases x <;> cases y <;> first | exact op_in_str pins s σ H _ _ _ _ Q I rx ry ⟨_, _, rfl, rfl, h⟩ | exact op_in_seq pins s σ H _ _ _ _ Q I rx ry h
theorem op_uNotIn : OpR X (compareOp .NotIn) (uNotIn X.K) := by
  intro pins s σ H x y v u Q I rx ry h
  cases x <;> cases y <;> first | exact op_notin_str pins s σ H _ _ _ _ Q I rx ry ⟨_, _, rfl, rfl, h⟩ | exact op_notIn_seq pins s σ H _ _ _ _ Q I rx ry h
end

/-! ### items, lengths, kinds -/
def uIx (K : PySem.W.Frag) : R2 := fun x y H Q => match x, y with
  | .ref p, .int i => ∃ xs v, (SqL K H p xs ∨ SqT K H p xs) ∧ atI xs i = some v ∧ Q v H
  | .str z, .int i => ∃ c, z.length ≤ sizeLine ∧ atI z.cps.toList i = some c ∧ Q (.str ⟨#[c]⟩) H
  | _, _ => False
def uLen (K : PySem.W.Frag) : List V → Hp → VK → Prop := fun vs H Q => match vs with
  | [.ref p] => ∃ xs, (SqL K H p xs ∨ SqT K H p xs) ∧ Q (.int xs.length) H
  | [.str z] => z.length ≤ sizeLine ∧ Q (.int z.length) H
  | _ => False
def uInt : List V → Hp → VK → Prop := fun vs H Q => match vs with
  | [.int i] => Q (.int i) H
  | [.bl b] => Q (.int (if b then 1 else 0)) H
  | _ => False
def uMax : List V → Hp → VK → Prop := fun vs H Q => match vs with
  | [.int i, .int j] => Q (.int (if j > i then j else i)) H
  | _ => False
def uMin : List V → Hp → VK → Prop := fun vs H Q => match vs with
  | [.int i, .int j] => Q (.int (if j < i then j else i)) H
  | _ => False
def uAbs : List V → Hp → VK → Prop := fun vs H Q => match vs with
  | [.int i] => Q (.int (if i < 0 then -i else i)) H
  | _ => False
def uList (K : PySem.W.Frag) : List V → Hp → VK → Prop := fun vs H Q => match vs with
  | [.ref p] => ∃ xs, (SqL K H p xs ∨ SqT K H p xs) ∧ ∀ l, H l = none → Q (.ref l) (upd H l (.lst xs))
  | _ => False
def uTuple (K : PySem.W.Frag) : List V → Hp → VK → Prop := fun vs H Q => match vs with
  | [.ref p] => ∃ xs, (SqL K H p xs ∧ ∀ l, H l = none → Q (.ref l) (upd H l (.tup xs))) ∨ (SqT K H p xs ∧ Q (.ref p) H)
  | _ => False
/-- isinstance with one class -/
def uIsi (K : PySem.W.Frag) : List V → Hp → VK → Prop := fun vs H Q => match vs with
  | [x, c] => ∃ (t u : Value) (b : Bool), ClsV c u ∧ TyX K H x t ∧ PySem.W.kitOne K t u = some b ∧ Q (.bl b) H
  | _ => False
def tTru (K : PySem.W.Frag) (ta : TE) : TT := fun σ H Q => ta σ H fun x H' => ∃ k, TruV K x H' k ∧ Q k H'
def tCal (sp : Sp) (t : TA) : TE := fun σ H Q => t σ H fun vs H1 => sp vs H1 Q E0
section
variable {X : Cx}
theorem ix_uIx : IxR X (uIx X.K) := by
  intro ea eb pins s σ H x y v u Q I rx ry h hp
  cases x <;> cases y <;> first | exact h.elim | skip
  · obtain ⟨c, hz, ha, q⟩ := h
    exact ix_str ea eb pins s σ H _ _ _ _ Q I rx ry ⟨_, _, c, rfl, rfl, hz, ha, q⟩ hp
  · obtain ⟨xs, w, hl, ha, q⟩ := h
    rcases hl with hl | hl
    · exact ix_list ea eb pins s σ H _ _ _ _ Q I rx ry ⟨_, xs, _, w, rfl, rfl, hl, ha, q⟩ hp
    · exact ix_tup ea eb pins s σ H _ _ _ _ Q I rx ry ⟨_, xs, _, w, rfl, rfl, hl, ha, q⟩ hp
theorem call_uLen : CallR X (.builtin "len") (uLen X.K) := by
  intro pins s σ H vs us Q I r h
  rcases vs with _ | ⟨x, _ | ⟨y, t⟩⟩
  · exact h.elim
  · cases x <;> first | exact h.elim | skip
    · exact call_len pins s σ H _ _ Q I r ⟨_, _, rfl, ⟨h.1, rfl⟩, h.2⟩
    · obtain ⟨xs, hl, q⟩ := h
      refine call_len pins s σ H _ _ Q I r ⟨_, xs.length, rfl, ?_, q⟩
      rcases hl with hl | hl
      · exact .inl ⟨_, hl, rfl⟩
      · exact .inr ⟨_, hl, rfl⟩
  · cases x <;> exact h.elim
theorem call_uInt : CallR X (.type "int") uInt := by
  intro pins s σ H vs us Q I r h
  rcases vs with _ | ⟨x, _ | ⟨y, t⟩⟩
  · exact h.elim
  · cases x <;> first | exact h.elim | skip
    · exact call_int1 pins s σ H _ _ Q I r (.inr ⟨_, rfl, h⟩)
    · exact call_int1 pins s σ H _ _ Q I r (.inl ⟨_, rfl, h⟩)
  · cases x <;> exact h.elim
theorem call_uAbs : CallR X (.builtin "abs") uAbs := by
  intro pins s σ H vs us Q I r h
  rcases vs with _ | ⟨x, _ | ⟨y, t⟩⟩
  · exact h.elim
  · cases x <;> first | exact h.elim | skip
    exact call_abs pins s σ H _ _ Q I r ⟨_, rfl, h⟩
  · cases x <;> exact h.elim
theorem call_uMax (hc : X.calm = true) : CallR X (.builtin "max") uMax := by
  intro pins s σ H vs us Q I r h
  rcases vs with _ | ⟨x, _ | ⟨y, _ | ⟨z, t⟩⟩⟩
  · exact h.elim
  · cases x <;> exact h.elim
  · cases x <;> cases y <;> first | exact h.elim | skip
    exact call_max2 hc pins s σ H _ _ Q I r ⟨_, _, rfl, h⟩
  · cases x <;> cases y <;> exact h.elim
theorem call_uMin (hc : X.calm = true) : CallR X (.builtin "min") uMin := by
  intro pins s σ H vs us Q I r h
  rcases vs with _ | ⟨x, _ | ⟨y, _ | ⟨z, t⟩⟩⟩
  · exact h.elim
  · cases x <;> exact h.elim
  · cases x <;> cases y <;> first | exact h.elim | skip
    exact call_min2 hc pins s σ H _ _ Q I r ⟨_, _, rfl, h⟩
  · cases x <;> cases y <;> exact h.elim
theorem call_uList : CallR X (.type "list") (uList X.K) := by
  intro pins s σ H vs us Q I r h
  rcases vs with _ | ⟨x, _ | ⟨y, t⟩⟩
  · exact h.elim
  · cases x <;> first | exact h.elim | skip
    obtain ⟨xs, hl, q⟩ := h
    exact call_list_of pins s σ H _ _ Q I r ⟨_, xs, rfl, hl, q⟩
  · cases x <;> exact h.elim
theorem call_uTuple : CallR X (.type "tuple") (uTuple X.K) := by
  intro pins s σ H vs us Q I r h
  rcases vs with _ | ⟨x, _ | ⟨y, t⟩⟩
  · exact h.elim
  · cases x <;> first | exact h.elim | skip
    obtain ⟨xs, hl⟩ := h
    exact call_tuple_of pins s σ H _ _ Q I r ⟨_, xs, rfl, hl⟩
  · cases x <;> exact h.elim
theorem call_uIsi : CallR X (.builtin "isinstance") (uIsi X.K) := by
  intro pins s σ H vs us Q I r h
  rcases vs with _ | ⟨x, _ | ⟨y, _ | ⟨z, t⟩⟩⟩
  · exact h.elim
  · exact h.elim
  · obtain ⟨t, u, b, k, ty, e, q⟩ := h
    exact call_isi pins s σ H _ _ Q I r ⟨_, _, t, u, b, rfl, k, ty, e, q⟩
  · exact h.elim
theorem pt_u {a : Expr} {ta : TE} (ha : PE X a ta) (he : ∀ whole, isTrue a X.env whole = (do let v ← whole; standAt a.pos; holding [v] (truthy v)) := by intro _; rfl) : PT X a (tTru X.K ta) := pt_truth ha he
end

/-! ### a def of the text, as those who call it know it -/
structure Dfn (P : Program) (w : World) (K : PySem.W.Frag) (mg : Str → Option Value) (base : Heap) (k : Nat) (x : Str) (ps : List Str) (sp : Sp) : Prop where
  ex : ∃ (f : Addr) (fd : FuncData), mg x = some (.ref f) ∧ PySem.W.keepIn K (.ref f) = true ∧ Binds K fd ps [] ∧ FnOk P w K mg base CX0 k f fd ps sp
theorem nil_sp (sp : Sp) (t : TA) : tCall sp [] E0 t = tCal sp t := by
  funext σ H Q
  simp only [tCall, tCal, List.append_nil]
section
variable {X : Cx} {k : Nat} {x : Str} {ps : List Str} {sp : Sp} {p pos : Pos} {e : Expr} {es : List Expr} {t : TA}
theorem z_call (D : Dfn X.prog X.w X.K X.mg X.base k x ps sp) (hr : Room k X.A) (hg : Gl X x) (ha : PA X (e :: es) t) (hdb : (x == ("__debug__" : Str)) = false := by decide)
    (he : starEach (e :: es) X.env = (false, eval e X.env) :: starEach es X.env := by rfl) (hpl : (backTo pos (starEach es X.env)).any (·.1) = false := by rfl) : PE X (.Call (.Name x p) (e :: es) [] pos) (tCal sp t) := by
  obtain ⟨f, fd, hm, hk, hb, F⟩ := D.ex
  rw [← nil_sp]
  exact pe_call F hr hg hm hk hb .nil pass0 ha hdb he hpl
theorem z_call0 (D : Dfn X.prog X.w X.K X.mg X.base k x ps sp) (hr : Room k X.A) (hg : Gl X x) (hdb : (x == ("__debug__" : Str)) = false := by decide) : PE X (.Call (.Name x p) [] [] pos) (tCal sp tNil) := by
  obtain ⟨f, fd, hm, hk, hb, F⟩ := D.ex
  rw [← nil_sp]
  exact pe_call0 F hr hg hm hk hb .nil pass0 hdb
/-- a list or a tuple that is walked -/
def iSeq (K : PySem.W.Frag) (tl : TE) : TI := fun σ H R => iList K tl σ H R ∨ iTup K tl σ H R
theorem pi_seq {tg l : Expr} {tl : TE} (hl : PE X l tl) : PI X tg l (iSeq X.K tl) := by
  have h1 := pi_list (tg := tg) hl
  have h2 := pi_tup (tg := tg) hl
  refine ⟨fun pins s σ H R I h => ?_⟩
  rcases h with h | h
  · exact h1.run pins s σ H R I h
  · exact h2.run pins s σ H R I h
end

/-! ### the steps of a reading -/
def zNewL (xs : List V) (H : Hp) (Q : VK) : Prop := xs.length ≤ sizeLine ∧ ∀ p, H p = none → Q (.ref p) (upd H p (.lst xs))
def zNewT (xs : List V) (H : Hp) (Q : VK) : Prop := xs.length ≤ sizeLine ∧ ∀ p, H p = none → Q (.ref p) (upd H p (.tup xs))
section
variable {K : PySem.W.Frag} {σ : St} {H : Hp} {i : Nat} {v : V} {Q : VK} {QA : List V → Hp → Prop} {QB : Bool → Hp → Prop} {r : R2} {r1 : V → Hp → VK → Prop} {rl : List V → Hp → VK → Prop} {ta tb te : TE} {tr t : TA} {c u : TT} {sp : Sp} {xs : List V} {a b : Int} {x y : Str} {p q : Addr} {bb : Bool} {D : Ends} {t1 t2 : TS}
theorem z_var (h : σ[i]? = some (some v)) (k : Q v H) : tVar i σ H Q := ⟨v, h, k⟩
theorem z_c (k : Q v H) : tC v σ H Q := k
theorem z_op (k : ta σ H fun x H1 => tb σ H1 fun y H2 => r x y H2 Q) : tOp r ta tb σ H Q := k
theorem z_un (k : ta σ H fun x H1 => r1 x H1 Q) : tUn r1 ta σ H Q := k
theorem z_cb (k : t σ H fun vs H1 => rl vs H1 Q) : tCB rl t σ H Q := k
theorem z_cal (k : t σ H fun vs H1 => sp vs H1 Q E0) : tCal sp t σ H Q := k
theorem z_nil (k : QA [] H) : tNil σ H QA := k
theorem z_cons (k : ta σ H fun x H1 => tr σ H1 fun xs H2 => QA (x :: xs) H2) : tCons ta tr σ H QA := k
theorem z_lst (k : t σ H fun xs H1 => zNewL xs H1 Q) : tLst t σ H Q := k
theorem z_tup (k : t σ H fun xs H1 => zNewT xs H1 Q) : tTup t σ H Q := k
theorem z_newL (h : xs.length ≤ 100000) (k : ∀ p, H p = none → Q (.ref p) (upd H p (.lst xs))) : zNewL xs H Q := ⟨Nat.le_trans h (by decide), k⟩
theorem z_newT (h : xs.length ≤ 100000) (k : ∀ p, H p = none → Q (.ref p) (upd H p (.tup xs))) : zNewT xs H Q := ⟨Nat.le_trans h (by decide), k⟩
theorem z_test (k : te σ H fun x H' => ∃ k, x = .bl k ∧ QB k H') : tTest te σ H QB := k
theorem z_bl (k : QB bb H) : ∃ k, V.bl bb = .bl k ∧ QB k H := ⟨bb, rfl, k⟩
theorem z_tru (k : te σ H fun x H' => ∃ k, TruV K x H' k ∧ QB k H') : tTru K te σ H QB := k
theorem z_trub {P : Bool → Prop} (k : P bb) : ∃ k, TruV K (.bl bb) H k ∧ P k := ⟨bb, rfl, k⟩
theorem z_trui {P : Bool → Prop} (k : P (a != 0)) : ∃ k, TruV K (.int a) H k ∧ P k := ⟨_, rfl, k⟩
theorem z_and (k : c σ H fun b H1 => if b = true then u σ H1 QB else QB false H1) : tAnd c u σ H QB := k
theorem z_or (k : c σ H fun b H1 => if b = true then QB true H1 else u σ H1 QB) : tOr c u σ H QB := k
theorem z_not (k : c σ H fun b H1 => QB (!b) H1) : tNot c σ H QB := k
theorem z_andV (k : ta σ H fun x H1 => ∃ c, x = .bl c ∧ if c = true then tb σ H1 Q else Q (.bl false) H1) : tAndV ta tb σ H Q := k
theorem z_orV (k : ta σ H fun x H1 => ∃ c, x = .bl c ∧ if c = true then Q (.bl true) H1 else tb σ H1 Q) : tOrV ta tb σ H Q := k
theorem z_notV (k : ta σ H fun x H1 => ∃ c, x = .bl c ∧ Q (.bl (!c)) H1) : tNotV ta σ H Q := k
theorem z_if (k : c σ H fun b H1 => if b = true then ta σ H1 Q else tb σ H1 Q) : tIf c ta tb σ H Q := k
theorem z_bl1 {P : Bool → Prop} (k : P bb) : ∃ k, V.bl bb = .bl k ∧ P k := ⟨bb, rfl, k⟩
-- operators
theorem z_add (k : Q (.int (a + b)) H) : uAdd K (.int a) (.int b) H Q := k
theorem z_addS (h : x.length + y.length ≤ 100000) (k : Q (.str (x ++ y)) H) : uAdd K (.str x) (.str y) H Q := ⟨Nat.le_trans h (by decide), k⟩
theorem z_addL {xs ys : List V} (h1 : H p = some (.lst xs)) (h2 : H q = some (.lst ys)) (h : xs.length + ys.length ≤ 100000) (k : ∀ l, H l = none → Q (.ref l) (upd H l (.lst (xs ++ ys)))) : uAdd K (.ref p) (.ref q) H Q :=
  .inl ⟨p, q, xs, ys, rfl, rfl, h1, h2, Nat.le_trans h (by decide), k⟩
theorem z_sub (k : Q (.int (a - b)) H) : uSub (.int a) (.int b) H Q := k
theorem z_mul (h : MulOk a b) (k : Q (.int (a * b)) H) : uMul (.int a) (.int b) H Q := ⟨h, k⟩
theorem z_div (h : CDivW a b) (k : Q (.int (a / b)) H) : uDiv (.int a) (.int b) H Q := ⟨h, k⟩
theorem z_mod (h : 0 < b) (k : Q (.int (a % b)) H) : uMod (.int a) (.int b) H Q := ⟨h, k⟩
theorem z_pow (h : CPow a b) (k : Q (.int (a ^ b.toNat)) H) : uPow (.int a) (.int b) H Q := ⟨h, k⟩
theorem z_neg (k : Q (.int (-a)) H) : uNeg (.int a) H Q := k
theorem z_lt (k : Q (.bl (decide (a < b))) H) : uLt K (.int a) (.int b) H Q := k
theorem z_ltS (k : Q (.bl (decide (x.cps.toList < y.cps.toList))) H) : uLt K (.str x) (.str y) H Q := k
theorem z_ltIS {i j : Int} {x y : Str} (h1 : SqT K H p [.int i, .str x]) (h2 : SqT K H q [.int j, .str y]) (k : Q (.bl (if i = j then decide (x.cps.toList < y.cps.toList) else decide (i < j))) H) : uLt K (.ref p) (.ref q) H Q := by
  refine .inr ⟨_, _, h1, h2, ?_, ?_⟩
  · intro n u v hu hv
    match n with
    | 0 => cases hu; cases hv; rfl
    | 1 => cases hu; cases hv; rfl
    | n + 2 => cases hu
  · have e : Ob.lexAt (fun n => decide (([V.int i, .str x])[n]? = ([V.int j, .str y])[n]?)) (ltV2 [.int i, .str x] [.int j, .str y]) (decide (([V.int i, .str x] : List V).length < ([V.int j, .str y] : List V).length)) 0 (min ([V.int i, .str x] : List V).length ([V.int j, .str y] : List V).length) = (if i = j then decide (x.cps.toList < y.cps.toList) else decide (i < j)) := by
      show Ob.lexAt _ _ false 0 2 = _
      rw [Ob.lexAt_succ, Ob.lexAt_succ, Ob.lexAt_zero]
      by_cases h : i = j
      · subst h
        rw [if_pos (by simp), if_pos rfl]
        by_cases h2 : x = y
        · subst h2
          rw [if_pos (by simp), decide_eq_false (List.lt_irrefl _)]
        · rw [if_neg (by simp [h2])]; rfl
      · rw [if_neg (by simp [h]), if_neg h]; rfl
    rw [e]; exact k
theorem z_le (k : Q (.bl (decide (a ≤ b))) H) : uLe (.int a) (.int b) H Q := k
theorem z_leS (k : Q (.bl (!decide (y.cps.toList < x.cps.toList))) H) : uLe (.str x) (.str y) H Q := k
theorem z_gt (k : Q (.bl (decide (b < a))) H) : uGt (.int a) (.int b) H Q := k
theorem z_gtS (k : Q (.bl (decide (y.cps.toList < x.cps.toList))) H) : uGt (.str x) (.str y) H Q := k
theorem z_ge (k : Q (.bl (decide (b ≤ a))) H) : uGe (.int a) (.int b) H Q := k
theorem z_geS (k : Q (.bl (!decide (x.cps.toList < y.cps.toList))) H) : uGe (.str x) (.str y) H Q := k
theorem z_eq (k : Q (.bl (decide (a = b))) H) : uEq K (.int a) (.int b) H Q := k
theorem z_eqS (k : Q (.bl (decide (x = y))) H) : uEq K (.str x) (.str y) H Q := k
theorem z_eqB {a b : Bool} (k : Q (.bl (decide (a = b))) H) : uEq K (.bl a) (.bl b) H Q := k
theorem z_eqN (k : Q (.bl true) H) : uEq K .non .non H Q := k
theorem z_eqIS (k : Q (.bl false) H) : uEq K (.int a) (.str x) H Q := .inl ⟨rfl, by rw [decide_eq_false (by intro z; cases z)]; exact k⟩
theorem z_eqSI (k : Q (.bl false) H) : uEq K (.str x) (.int a) H Q := .inl ⟨rfl, by rw [decide_eq_false (by intro z; cases z)]; exact k⟩
theorem z_eqD {d e : PyData} (h1 : Dp K H (.ref p) d) (h2 : Dp K H (.ref q) e) (s1 : SeqAt.shaped d = true) (s2 : SeqAt.shaped e = true) (k : Q (.bl (PyData.eqv d e)) H) : uEq K (.ref p) (.ref q) H Q := .inl ⟨d, e, h1, h2, s1, s2, k⟩
theorem z_ne (k : Q (.bl (!decide (a = b))) H) : uNe K (.int a) (.int b) H Q := k
theorem z_neS (k : Q (.bl (!decide (x = y))) H) : uNe K (.str x) (.str y) H Q := k
theorem z_neB {a b : Bool} (k : Q (.bl (!decide (a = b))) H) : uNe K (.bl a) (.bl b) H Q := k
theorem z_neN (k : Q (.bl false) H) : uNe K .non .non H Q := k
theorem z_neIS (k : Q (.bl true) H) : uNe K (.int a) (.str x) H Q := .inl ⟨rfl, by rw [decide_eq_false (by intro z; cases z)]; exact k⟩
theorem z_neSI (k : Q (.bl true) H) : uNe K (.str x) (.int a) H Q := .inl ⟨rfl, by rw [decide_eq_false (by intro z; cases z)]; exact k⟩
theorem z_neD {d e : PyData} (h1 : Dp K H (.ref p) d) (h2 : Dp K H (.ref q) e) (s1 : SeqAt.shaped d = true) (s2 : SeqAt.shaped e = true) (k : Q (.bl (!PyData.eqv d e)) H) : uNe K (.ref p) (.ref q) H Q := .inl ⟨d, e, h1, h2, s1, s2, k⟩
theorem allB_true {xs ys : List V} {e : Nat → Bool} (hl : xs.length = ys.length) (h : ∀ i, i < xs.length → e i = true) : allB xs ys e = true := by
  unfold allB
  rw [← hl, Nat.min_self, beq_self_eq_true, Bool.and_true, List.all_eq_true]
  exact fun i hi => h i (List.mem_range.mp hi)
/-- surely equal -/
theorem z_eqSame {n : Nat} {xs ys : List V} (hn : n ≤ 16) (hs : sameSq K H p q xs ys) (hl : xs.length = ys.length) (he : ∀ (i : Nat) (x y : V), xs[i]? = some x → ys[i]? = some y → EqB K H n x y true) (k : Q (.bl true) H) : uEq K (.ref p) (.ref q) H Q :=
  .inr ⟨n, xs, ys, fun _ => true, hn, hs, he, by rw [allB_true hl fun _ _ => rfl]; exact k⟩
theorem z_neSame {n : Nat} {xs ys : List V} (hn : n ≤ 16) (hs : sameSq K H p q xs ys) (hl : xs.length = ys.length) (he : ∀ (i : Nat) (x y : V), xs[i]? = some x → ys[i]? = some y → EqB K H n x y true) (k : Q (.bl false) H) : uNe K (.ref p) (.ref q) H Q :=
  .inr ⟨n, xs, ys, fun _ => true, hn, hs, he, by rw [allB_true hl fun _ _ => rfl]; exact k⟩
theorem EqB.self : ∀ {v : V}, (flatV v = true ∨ ∃ a, v = .ref a) → EqB K H 0 v v true := by
  intro v h
  rcases h with h | ⟨a, rfl⟩
  · refine .inl ⟨h, h, ?_⟩
    cases v <;> first | (cases h; done) | (simp [eqV]; done)
  · exact .inr ⟨a, rfl, rfl, rfl⟩
theorem EqB.up {v w : V} {b : Bool} : ∀ {n m : Nat}, n ≤ m → EqB K H n v w b → EqB K H m v w b := by
  intro n m h e
  induction h with
  | refl => exact e
  | step _ ih => exact .inl ih
theorem EqB.sq {n : Nat} {a c : Addr} {xs ys : List V} (hs : sameSq K H a c xs ys) (hl : xs.length = ys.length) (he : ∀ (i : Nat) (x y : V), xs[i]? = some x → ys[i]? = some y → EqB K H n x y true) : EqB K H (n + 1) (.ref a) (.ref c) true :=
  .inr ⟨a, c, xs, ys, fun _ => true, rfl, rfl, hs, he, (allB_true hl fun _ _ => rfl).symm⟩
theorem EqB.str {x y : Str} : EqB K H 0 (.str x) (.str y) (decide (x = y)) := .inl ⟨rfl, rfl, by simp only [eqV]; rw [Bool.eq_iff_iff, decide_eq_true_iff, beq_iff_eq]⟩
theorem EqB.int {x y : Int} : EqB K H 0 (.int x) (.int y) (decide (x = y)) := .inl ⟨rfl, rfl, by simp only [eqV]; rw [Bool.eq_iff_iff, decide_eq_true_iff, beq_iff_eq]⟩
theorem EqB.of {n : Nat} {a c : Addr} {xs ys : List V} {e : Nat → Bool} {b : Bool} (hs : sameSq K H a c xs ys) (he : ∀ (i : Nat) (x y : V), xs[i]? = some x → ys[i]? = some y → EqB K H n x y (e i)) (hb : b = allB xs ys e) : EqB K H (n + 1) (.ref a) (.ref c) b := .inr ⟨a, c, xs, ys, e, rfl, rfl, hs, he, hb⟩
theorem z_eqOf {n : Nat} {xs ys : List V} {e : Nat → Bool} {b : Bool} (hn : n ≤ 16) (hs : sameSq K H p q xs ys) (he : ∀ (i : Nat) (x y : V), xs[i]? = some x → ys[i]? = some y → EqB K H n x y (e i)) (hb : b = allB xs ys e) (k : Q (.bl b) H) : uEq K (.ref p) (.ref q) H Q := .inr ⟨n, xs, ys, e, hn, hs, he, by rw [← hb]; exact k⟩
theorem z_neOf {n : Nat} {xs ys : List V} {e : Nat → Bool} {b : Bool} (hn : n ≤ 16) (hs : sameSq K H p q xs ys) (he : ∀ (i : Nat) (x y : V), xs[i]? = some x → ys[i]? = some y → EqB K H n x y (e i)) (hb : b = allB xs ys e) (k : Q (.bl (!b)) H) : uNe K (.ref p) (.ref q) H Q := .inr ⟨n, xs, ys, e, hn, hs, he, by rw [← hb]; exact k⟩
theorem z_is (k : Q (.bl (decide (v = .non))) H) : uIs v .non H Q := by cases v <;> exact k
theorem z_isNot (k : Q (.bl (!decide (v = .non))) H) : uIsNot v .non H Q := by cases v <;> exact k
theorem z_isB {a b : Bool} (k : Q (.bl (decide (a = b))) H) : uIs (.bl a) (.bl b) H Q := k
theorem z_isNotB {a b : Bool} (k : Q (.bl (!decide (a = b))) H) : uIsNot (.bl a) (.bl b) H Q := k
theorem z_in (h : SqL K H p xs ∨ SqT K H p xs) (hx : flatV v = true) (ha : xs.all flatV = true) (k : Q (.bl (inV v xs)) H) : uIn K v (.ref p) H Q := by
  cases v <;> exact ⟨p, xs, rfl, h, hx, ha, k⟩
theorem z_notIn (h : SqL K H p xs ∨ SqT K H p xs) (hx : flatV v = true) (ha : xs.all flatV = true) (k : Q (.bl (!inV v xs)) H) : uNotIn K v (.ref p) H Q := by
  cases v <;> exact ⟨p, xs, rfl, h, hx, ha, k⟩
theorem z_isbb {a : Bool} (k : Q (.bl true) H) : uIsi K [.bl a, .ty "bool"] H Q := ⟨_, _, true, .ty _, .base (.bl a), rfl, k⟩
theorem z_isbi {a : Bool} (k : Q (.bl true) H) : uIsi K [.bl a, .ty "int"] H Q := ⟨_, _, true, .ty _, .base (.bl a), rfl, k⟩
theorem z_isll (h : H p = some (.lst xs)) (k : Q (.bl true) H) : uIsi K [.ref p, .ty "list"] H Q := ⟨_, _, true, .ty _, .base (.lst h), rfl, k⟩
theorem z_istt (h : H p = some (.tup xs)) (k : Q (.bl true) H) : uIsi K [.ref p, .ty "tuple"] H Q := ⟨_, _, true, .ty _, .base (.tup h), rfl, k⟩
theorem z_chain {r r' : R2} {tc : TE} (k : ta σ H fun x H1 => tb σ H1 fun y H2 => r x y H2 fun z H3 => ∃ k, z = .bl k ∧ if k = true then tc σ H3 fun w H4 => r' y w H4 Q else Q (.bl false) H3) : tChain r r' ta tb tc σ H Q := k
-- items, built-ins
theorem z_ix (h : SqL K H p xs ∨ SqT K H p xs) (e : atI xs a = some v) (k : Q v H) : uIx K (.ref p) (.int a) H Q := ⟨xs, v, h, e, k⟩
theorem z_len (h : SqL K H p xs ∨ SqT K H p xs) (k : Q (.int xs.length) H) : uLen K [.ref p] H Q := ⟨xs, h, k⟩
theorem z_int (k : Q (.int a) H) : uInt [.int a] H Q := k
theorem z_max (k : Q (.int (if b > a then b else a)) H) : uMax [.int a, .int b] H Q := k
theorem z_min (k : Q (.int (if b < a then b else a)) H) : uMin [.int a, .int b] H Q := k
theorem z_abs (k : Q (.int (if a < 0 then -a else a)) H) : uAbs [.int a] H Q := k
theorem z_list (h : SqL K H p xs ∨ SqT K H p xs) (k : ∀ l, H l = none → Q (.ref l) (upd H l (.lst xs))) : uList K [.ref p] H Q := ⟨xs, h, k⟩
theorem z_tupleL (h : SqL K H p xs) (k : ∀ l, H l = none → Q (.ref l) (upd H l (.tup xs))) : uTuple K [.ref p] H Q := ⟨xs, .inl ⟨h, k⟩⟩
theorem z_tupleT (h : SqT K H p xs) (k : Q (.ref p) H) : uTuple K [.ref p] H Q := ⟨xs, .inr ⟨h, k⟩⟩
theorem z_isi {w : V} {t' u' : Value} (h1 : ClsV w u') (h2 : TyX K H v t') (h3 : PySem.W.kitOne K t' u' = some bb) (k : Q (.bl bb) H) : uIsi K [v, w] H Q := ⟨t', u', bb, h1, h2, h3, k⟩
theorem z_isii (k : Q (.bl true) H) : uIsi K [.int a, .ty "int"] H Q := ⟨_, _, true, .ty _, .base (.int a), rfl, k⟩
theorem z_isib (k : Q (.bl false) H) : uIsi K [.int a, .ty "bool"] H Q := ⟨_, _, false, .ty _, .base (.int a), rfl, k⟩
-- statements
theorem z_seq (k : t1 { D with nx := t2 D } σ H) : tSeq t1 t2 D σ H := k
theorem z_next (k : D.nx σ H) : tNext D σ H := k
theorem z_brk (k : D.bk σ H) : tBreak D σ H := k
theorem z_cont (k : D.ct σ H) : tCont D σ H := k
theorem z_ret (k : te σ H D.rt) : tRet te D σ H := k
theorem z_retN (k : D.rt .non H) : tRetN D σ H := k
theorem z_asg (k : te σ H fun x H1 => D.nx (σ.set i (some x)) H1) : tAsg te (gName i) D σ H := k
theorem z_drop (k : te σ H fun _ H1 => D.nx σ H1) : tDrop te D σ H := k
theorem z_ifS (k : c σ H fun b H1 => if b = true then t1 D σ H1 else t2 D σ H1) : tIfS c t1 t2 D σ H := k
theorem z_iteT {A B : Prop} (k : A) : if true = true then A else B := by rw [if_pos rfl]; exact k
theorem z_iteF {A B : Prop} (k : B) : if false = true then A else B := by rw [if_neg Bool.false_ne_true]; exact k
theorem z_iteT' {A B : Prop} (e : bb = true) (k : A) : if bb = true then A else B := by rw [if_pos e]; exact k
theorem z_iteF' {A B : Prop} (e : bb = false) (k : B) : if bb = true then A else B := by rw [if_neg (by rw [e]; exact Bool.false_ne_true)]; exact k
theorem z_ite {A B : Prop} (h1 : bb = true → A) (h2 : bb = false → B) : if bb = true then A else B := by
  cases bb with
  | true => rw [if_pos rfl]; exact h1 rfl
  | false => rw [if_neg Bool.false_ne_true]; exact h2 rfl
theorem z_itD {A B P : Prop} [Decidable P] (h1 : P → A) (h2 : ¬ P → B) : if decide P = true then A else B := by
  by_cases h : P
  · rw [if_pos (decide_eq_true h)]; exact h1 h
  · rw [if_neg (by rw [decide_eq_false h]; exact Bool.false_ne_true)]; exact h2 h
theorem z_itN {A B P : Prop} [Decidable P] (h1 : ¬ P → A) (h2 : P → B) : if (!decide P) = true then A else B := by
  by_cases h : P
  · rw [decide_eq_true h, if_neg (by decide)]; exact h2 h
  · rw [decide_eq_false h, if_pos (by decide)]; exact h1 h
-- loops
def zRng (g : TG) (tb : TS) (D : Ends) (σ : St) (lo : Int) (n : Nat) (H1 : Hp) : Prop := ∃ W : Nat → Nat → St → Hp → Prop, (∃ m, W 0 m σ H1) ∧ ∀ i m σ H, W i m σ H →
  ((Itr lo n).stop i H ∧ D.nx σ H) ∨ ((Itr lo n).go i H ∧ ∃ N : St → Hp → Prop, (∀ σ' H', N σ' H' → ∃ m', m' < m ∧ W (i + 1) m' σ' H') ∧ ∀ x H', (Itr lo n).yld i H x H' → g x σ H' fun σ2 H2 => tb { D with nx := N, ct := N, bk := D.nx } σ2 H2)
def zRng1 (g : TG) (tb : TS) (D : Ends) (σ : St) (vs : List V) (H1 : Hp) : Prop := ∃ j : Int, vs = [.int j] ∧ -(2 ^ 62) ≤ j ∧ j < 2 ^ 62 ∧ zRng g tb D σ 0 j.toNat H1
def zRng2 (g : TG) (tb : TS) (D : Ends) (σ : St) (vs : List V) (H1 : Hp) : Prop := ∃ i j : Int, vs = [.int i, .int j] ∧ (-(2 ^ 62) ≤ i ∧ i < 2 ^ 62 ∧ -(2 ^ 62) ≤ j ∧ j < 2 ^ 62) ∧ zRng g tb D σ i (j - i).toNat H1
def zIt (K : PySem.W.Frag) (g : TG) (tb : TS) (D : Ends) (σ : St) (v : V) (H1 : Hp) : Prop := ∃ a xs, v = .ref a ∧ ((SqL K H1 a xs ∧ ∃ W : Nat → Nat → St → Hp → Prop, (∃ m, W 0 m σ H1) ∧ ∀ i m σ H, W i m σ H →
  ((Itl K a).stop i H ∧ D.nx σ H) ∨ ((Itl K a).go i H ∧ ∃ N : St → Hp → Prop, (∀ σ' H', N σ' H' → ∃ m', m' < m ∧ W (i + 1) m' σ' H') ∧ ∀ x H', (Itl K a).yld i H x H' → g x σ H' fun σ2 H2 => tb { D with nx := N, ct := N, bk := D.nx } σ2 H2)) ∨
  (SqT K H1 a xs ∧ ∃ W : Nat → Nat → St → Hp → Prop, (∃ m, W 0 m σ H1) ∧ ∀ i m σ H, W i m σ H →
  ((Itt K a).stop i H ∧ D.nx σ H) ∨ ((Itt K a).go i H ∧ ∃ N : St → Hp → Prop, (∀ σ' H', N σ' H' → ∃ m', m' < m ∧ W (i + 1) m' σ' H') ∧ ∀ x H', (Itt K a).yld i H x H' → g x σ H' fun σ2 H2 => tb { D with nx := N, ct := N, bk := D.nx } σ2 H2)))
def iSq (K : PySem.W.Frag) (tl : TE) : TI := fun σ H R => tl σ H fun x H1 => ∃ a, x = .ref a ∧ (((∃ xs, SqL K H1 a xs) ∧ R (Itl K a) H1) ∨ ((∃ xs, SqT K H1 a xs) ∧ R (Itt K a) H1))
variable {g : TG} {ti : TS}
theorem z_for1 (k : t σ H fun vs H1 => zRng1 g ti D σ vs H1) : tFor (iRng1 t) g ti D σ H := k
theorem z_for2 (k : t σ H fun vs H1 => zRng2 g ti D σ vs H1) : tFor (iRng2 t) g ti D σ H := k
theorem z_rng1 {j : Int} (hb : j ≤ 1000000) (h : zRng g ti D σ 0 j.toNat H) (hb2 : -1000000 ≤ j) : zRng1 g ti D σ [.int j] H := ⟨j, rfl, by omega, by omega, h⟩
theorem z_rng2 {i j : Int} (h : zRng g ti D σ i (j - i).toNat H) (hb : -1000000 ≤ i ∧ i ≤ 1000000 ∧ -1000000 ≤ j ∧ j ≤ 1000000) : zRng2 g ti D σ [.int i, .int j] H := ⟨i, j, rfl, by omega, h⟩
/-- over a range: Pv by turns done, slots, heap -/
theorem z_rng {lo : Int} {n v : Nat} (Pv : Nat → St → Hp → Prop) (h0 : Pv 0 σ H)
    (hs : ∀ i σ H, i < n → Pv i σ H → ti { D with nx := Pv (i + 1), ct := Pv (i + 1), bk := D.nx } (σ.set v (some (.int (lo + i)))) H) (hd : ∀ σ H, Pv n σ H → D.nx σ H) : zRng (gName v) ti D σ lo n H :=
  for_range (g := gName v) (tb := ti) (D := D) Pv h0 hs hd
theorem z_while (Pv : Nat → St → Hp → Prop) (m : Nat) (h0 : Pv m σ H)
    (hs : ∀ m σ H, Pv m σ H → c σ H fun b H1 => if b = true then ∃ N : St → Hp → Prop, (∀ σ' H', N σ' H' → ∃ m', m' < m ∧ Pv m' σ' H') ∧ ti { D with nx := N, ct := N, bk := D.nx } σ H1 else D.nx σ H1) : tWhile c ti D σ H :=
  ⟨Pv, ⟨m, h0⟩, hs⟩
theorem z_turn {m : Nat} {Pv : Nat → St → Hp → Prop} {bk : St → Hp → Prop} (k : ti { D with nx := fun σ' H' => ∃ m', m' < m ∧ Pv m' σ' H', ct := fun σ' H' => ∃ m', m' < m ∧ Pv m' σ' H', bk := bk } σ H) :
    ∃ N : St → Hp → Prop, (∀ σ' H', N σ' H' → ∃ m', m' < m ∧ Pv m' σ' H') ∧ ti { D with nx := N, ct := N, bk := bk } σ H := ⟨_, fun _ _ h => h, k⟩
theorem mul1 (h : -1000000000000000000 < a ∧ a < 1000000000000000000) : MulOk a b := .inl (.inl (by omega))
theorem mul2 (h : -1000000000000000000 < b ∧ b < 1000000000000000000) : MulOk a b := .inl (.inr (by omega))
theorem div1 (h : 0 < b ∧ b < 1000000000000000000) : CDivW a b := wide_div h.1 (b := 64) (by omega) (by decide) (by decide)
end
/-! ### heaps -/
theorem lk_ne {H : Hp} {a b : Addr} {o u : HO} (h : a ≠ b) (e : H a = some u) : upd H b o a = some u := by rw [upd_ne h]; exact e
theorem ne_n {H : Hp} {a b : Addr} {o : HO} (h' : H b = none) (h : H a = some o) : a ≠ b := ne_of_none h h'
theorem sqL_new {K : PySem.W.Frag} {H : Hp} {a b : Addr} {o : HO} {xs : List V} (h : H b = none) (e : SqL K H a xs) : SqL K (upd H b o) a xs := by
  rcases e with (e | ⟨u, e⟩) | e
  · exact .inl (.inl (lk_ne (ne_of_none e h) e))
  · exact .inl (.inr ⟨u, lk_ne (ne_of_none e h) e⟩)
  · exact .inr e
theorem sqT_new {K : PySem.W.Frag} {H : Hp} {a b : Addr} {o : HO} {xs : List V} (h : H b = none) (e : SqT K H a xs) : SqT K (upd H b o) a xs := by
  rcases e with (e | ⟨u, e⟩) | e
  · exact .inl (.inl (lk_ne (ne_of_none e h) e))
  · exact .inl (.inr ⟨u, lk_ne (ne_of_none e h) e⟩)
  · exact .inr e
theorem sqL_ne {K : PySem.W.Frag} {H : Hp} {a b : Addr} {o : HO} {xs : List V} (h : a ≠ b) (e : SqL K H a xs) : SqL K (upd H b o) a xs := by
  rcases e with (e | ⟨u, e⟩) | e
  · exact .inl (.inl (lk_ne h e))
  · exact .inl (.inr ⟨u, lk_ne h e⟩)
  · exact .inr e
theorem sqT_ne {K : PySem.W.Frag} {H : Hp} {a b : Addr} {o : HO} {xs : List V} (h : a ≠ b) (e : SqT K H a xs) : SqT K (upd H b o) a xs := by
  rcases e with (e | ⟨u, e⟩) | e
  · exact .inl (.inl (lk_ne h e))
  · exact .inl (.inr ⟨u, lk_ne h e⟩)
  · exact .inr e
/-- what stands there is no state of draws -/
def NotSt (o : HO) : Prop := ∀ (L : Addr) (k a : Int), o ≠ .lst [.ref L, .int k, .int a]
theorem NotSt.ints {ns : List Int} : NotSt (.lst (ns.map V.int)) := fun L k a z => by
  cases ns with
  | nil => cases z
  | cons x r => injection z with z; injection z with z1 _; cases z1
theorem NotSt.refs {ps : List Addr} : NotSt (.lst (ps.map V.ref)) := fun L k a z => by
  cases ps with
  | nil => cases z
  | cons x r => cases r with
    | nil => cases z
    | cons y t => injection z with z; injection z with _ z; injection z with z _; cases z
theorem NotSt.strs {xs : List Str} : NotSt (.lst (xs.map V.str)) := fun L k a z => by
  cases xs with
  | nil => cases z
  | cons x r => injection z with z; injection z with z1 _; cases z1
/-- all that was tracked is as it was, but the states of draws -/
def ExD (H H' : Hp) : Prop := ∀ a o, NotSt o → H a = some o → H' a = some o
theorem ExD.lk {a : Addr} {H H' : Hp} {o : HO} (x : ExD H H') (e : H a = some o) (h : NotSt o) : H' a = some o := x a o h e
theorem ExD.refl (H : Hp) : ExD H H := fun _ _ _ e => e
theorem ExD.trans {H H1 H2 : Hp} (x : ExD H H1) (y : ExD H1 H2) : ExD H H2 := fun a o h e => y a o h (x a o h e)
theorem ExD.new {p : Addr} {H H1 : Hp} {o : HO} (h : H p = none) (x : ExD H H1) : ExD H (upd H1 p o) := fun a u ha e => lk_ne (ne_of_none e h) (x a u ha e)
theorem ExD.of {H H' : Hp} (x : Same H H') : ExD H H' := fun a o _ e => x a o e
theorem ExD.st {st L : Addr} {k a : Int} {H H1 : Hp} {o : HO} (e : H st = some (.lst [.ref L, .int k, .int a])) (x : ExD H H1) : ExD H (upd H1 st o) := fun b u hb f => by
  refine lk_ne (fun z => ?_) (x b u hb f)
  subst z; rw [e] at f; exact hb L k a (Option.some.inj f).symm
theorem Same.lk {a : Addr} {H H' : Hp} {o : HO} (x : Same H H') (e : H a = some o) : H' a = some o := x a o e
theorem lk_new {H : Hp} {a b : Addr} {o u : HO} (h : H b = none) (e : H a = some u) : upd H b o a = some u := lk_ne (ne_of_none e h) e
theorem lk_df {H : Hp} {a b : Addr} {o u w : HO} (e : H a = some u) (f : H b = some w) (d : u ≠ w) : upd H b o a = some u := lk_ne (fun z => by subst z; rw [e] at f; exact d (Option.some.inj f)) e

section
variable {K : PySem.W.Frag} {σ : St} {H : Hp} {Q : VK} {te ta tb : TE} {t u : TS} {D : Ends} {p : Addr} {xs : List V} {a : Int} {v : V} {j : Nat}
theorem z_cutI (k : t { D with nx := u D } σ H) : tCut t u D σ H := ⟨u D, k, fun _ _ h => h⟩
theorem z_cut (M : St → Hp → Prop) (k : t { D with nx := M } σ H) (h : ∀ σ' H', M σ' H' → u D σ' H') : tCut t u D σ H := ⟨M, k, h⟩
theorem z_asgS (k : te σ H fun x H1 => ta σ H1 fun o H2 => tb σ H2 fun i H3 => rSetL o i x H3 fun H4 => D.nx σ H4) : tAsg te (gSub ta tb rSetL) D σ H := k
theorem z_setL {Q : Hp → Prop} (h : H p = some (.lst xs)) (e : ixN xs.length a = some j) (k : Q (upd H p (.lst (xs.set j v)))) : rSetL (.ref p) (.int a) v H Q := ⟨p, xs, a, j, rfl, rfl, h, e, k⟩
theorem z_app (h : H p = some (.lst xs)) (hl : xs.length < 100000) (k : Q .non (upd H p (.lst (xs ++ [v])))) : rAppend (.ref p) [v] H Q := ⟨p, xs, v, rfl, rfl, h, Nat.lt_of_lt_of_le hl (by decide), k⟩
theorem tyL (h : H p = some (.lst xs)) : tyV K "list" (.ref p) H := Or.inl ⟨rfl, _, Or.inl (Or.inl h)⟩
theorem z_bm {T : String} {r : V → List V → Hp → VK → Prop} {to : TE} {t : TA} (k : to σ H fun x H1 => tyV K T x H1 ∧ t σ H1 fun xs H2 => r x xs H2 Q) : tBM K T r to t σ H Q := k
theorem upd_self {H : Hp} {a : Addr} {o : HO} (h : H a = some o) : upd H a o = H := by
  funext b; unfold upd; split
  · rename_i e; subst e; exact h.symm
  · rfl
theorem ix_at {α : Type} {xs : List α} {i : Int} (h0 : 0 ≤ i) (h1 : i < xs.length) : ixN xs.length i = some i.toNat := by
  unfold ixN; rw [if_pos h0, if_pos h1]
theorem at_int {ns : List Int} {i : Int} (h0 : 0 ≤ i) (h1 : i < ns.length) : atI (ns.map V.int) i = some (.int (ns.getD i.toNat 0)) := by
  unfold atI
  rw [ix_at h0 (by simpa using h1)]
  have : i.toNat < ns.length := by omega
  simp [List.getD, this]
end
/-- a body keeps its promise, from the promise as it was handed in -/
def Wd (T : TS) (N : List Str) (n : Nat) (sp : Sp) : Prop := ∀ (vs : List V) (H : Hp) (Q : VK) (E : XK), sp vs H Q E → vs.length = n ∧ T { nx := fun _ H' => Q .non H', rt := Q } (start N vs) H

/-! ### comprehensions -/
def zLcR (g : TG) (tt : TT) (te : TE) (vs : List Nat) (σ : St) (lo : Int) (n : Nat) (H1 : Hp) (Q : VK) : Prop := ∀ D, H1 D = none → ∃ W : Nat → Nat → Hp → Prop, (∃ m, W 0 m (upd H1 D (.lst []))) ∧ ∀ i m H, W i m H →
  ((Itr lo n).stop i H ∧ Q (.ref D) H) ∨ ((Itr lo n).go i H ∧ ∃ Nx : Hp → Prop, (∀ H', Nx H' → ∃ m', m' < m ∧ W (i + 1) m' H') ∧ ∀ x H', (Itr lo n).yld i H x H' → g x (wipe σ vs) H' fun σ2 H2 => wipe σ2 vs = wipe σ vs ∧ tt σ2 H2 fun b H3 =>
    if b = true then te σ2 H3 fun y H4 => ∃ acc, H4 D = some (.lst acc) ∧ acc.length < sizeLine ∧ Nx (upd H4 D (.lst (acc ++ [y]))) else Nx H3)
def zLcR1 (g : TG) (tt : TT) (te : TE) (vs : List Nat) (σ : St) (as : List V) (H1 : Hp) (Q : VK) : Prop := ∃ j : Int, as = [.int j] ∧ -(2 ^ 62) ≤ j ∧ j < 2 ^ 62 ∧ zLcR g tt te vs σ 0 j.toNat H1 Q
def zLcL (K : PySem.W.Frag) (g : TG) (tt : TT) (te : TE) (vs : List Nat) (σ : St) (a : Addr) (H1 : Hp) (Q : VK) : Prop := ∀ D, H1 D = none → ∃ W : Nat → Nat → Hp → Prop, (∃ m, W 0 m (upd H1 D (.lst []))) ∧ ∀ i m H, W i m H →
  ((Itl K a).stop i H ∧ Q (.ref D) H) ∨ ((Itl K a).go i H ∧ ∃ Nx : Hp → Prop, (∀ H', Nx H' → ∃ m', m' < m ∧ W (i + 1) m' H') ∧ ∀ x H', (Itl K a).yld i H x H' → g x (wipe σ vs) H' fun σ2 H2 => wipe σ2 vs = wipe σ vs ∧ tt σ2 H2 fun b H3 =>
    if b = true then te σ2 H3 fun y H4 => ∃ acc, H4 D = some (.lst acc) ∧ acc.length < sizeLine ∧ Nx (upd H4 D (.lst (acc ++ [y]))) else Nx H3)
def zLcT (K : PySem.W.Frag) (g : TG) (tt : TT) (te : TE) (vs : List Nat) (σ : St) (a : Addr) (H1 : Hp) (Q : VK) : Prop := ∀ D, H1 D = none → ∃ W : Nat → Nat → Hp → Prop, (∃ m, W 0 m (upd H1 D (.lst []))) ∧ ∀ i m H, W i m H →
  ((Itt K a).stop i H ∧ Q (.ref D) H) ∨ ((Itt K a).go i H ∧ ∃ Nx : Hp → Prop, (∀ H', Nx H' → ∃ m', m' < m ∧ W (i + 1) m' H') ∧ ∀ x H', (Itt K a).yld i H x H' → g x (wipe σ vs) H' fun σ2 H2 => wipe σ2 vs = wipe σ vs ∧ tt σ2 H2 fun b H3 =>
    if b = true then te σ2 H3 fun y H4 => ∃ acc, H4 D = some (.lst acc) ∧ acc.length < sizeLine ∧ Nx (upd H4 D (.lst (acc ++ [y]))) else Nx H3)
def zLcS (K : PySem.W.Frag) (g : TG) (tt : TT) (te : TE) (vs : List Nat) (σ : St) (x : V) (H1 : Hp) (Q : VK) : Prop := ∃ a, x = .ref a ∧ (((∃ xs, SqL K H1 a xs) ∧ zLcL K g tt te vs σ a H1 Q) ∨ ((∃ xs, SqT K H1 a xs) ∧ zLcT K g tt te vs σ a H1 Q))
def zForS (K : PySem.W.Frag) (g : TG) (tb : TS) (D : Ends) (σ : St) (x : V) (H1 : Hp) : Prop := ∃ a, x = .ref a ∧ (((∃ xs, SqL K H1 a xs) ∧ ∃ W : Nat → Nat → St → Hp → Prop, (∃ m, W 0 m σ H1) ∧ ∀ i m σ H, W i m σ H →
  ((Itl K a).stop i H ∧ D.nx σ H) ∨ ((Itl K a).go i H ∧ ∃ N : St → Hp → Prop, (∀ σ' H', N σ' H' → ∃ m', m' < m ∧ W (i + 1) m' σ' H') ∧ ∀ x H', (Itl K a).yld i H x H' → g x σ H' fun σ2 H2 => tb { D with nx := N, ct := N, bk := D.nx } σ2 H2)) ∨
  ((∃ xs, SqT K H1 a xs) ∧ ∃ W : Nat → Nat → St → Hp → Prop, (∃ m, W 0 m σ H1) ∧ ∀ i m σ H, W i m σ H →
  ((Itt K a).stop i H ∧ D.nx σ H) ∨ ((Itt K a).go i H ∧ ∃ N : St → Hp → Prop, (∀ σ' H', N σ' H' → ∃ m', m' < m ∧ W (i + 1) m' σ' H') ∧ ∀ x H', (Itt K a).yld i H x H' → g x σ H' fun σ2 H2 => tb { D with nx := N, ct := N, bk := D.nx } σ2 H2)))

section
open PyProof.Rows
theorem pi_sq {X : Cx} {tg l : Expr} {tl : TE} (hl : PE X l tl) : PI X tg l (iSq X.K tl) := by
  refine ⟨fun pins s σ H R I h => ?_⟩
  refine thn (hl.run pins s σ H _ I h) fun v s1 ⟨x, H1, I1, r1, q1⟩ => ?_
  obtain ⟨a, e, q1⟩ := q1
  subst e
  cases r1
  rcases q1 with ⟨⟨xs, hq⟩, q⟩ | ⟨⟨xs, hq⟩, q⟩
  · obtain ⟨its, rv, p, hz⟩ := I1.list hq
    refine wpAny_pyIter_list p.isList ?_
    refine ⟨s1.heap.objs.size, [s1.heap.objs.size], _, _, H1, rfl, I1.kept (t' := s1.toks) fun b o e => Heap.get?_push_of_some _ e, turn_list a _, ⟨_, Heap.get?_push_size _ rfl, rfl, rfl⟩, fun b hb => ?_, q⟩
    have e : b = s1.heap.objs.size := by simpa using hb
    subst e
    exact I1.fpOk (Nat.le_refl _) (I1.hok.fresh (Nat.le_refl _))
  · obtain ⟨its, rv, p, hz⟩ := I1.tuple hq
    refine wpAny_pyIter_tuple (show s1.heap.IsTuple a its.toArray from p) ?_
    refine ⟨s1.heap.objs.size, [s1.heap.objs.size], _, _, H1, rfl, I1.kept (t' := s1.toks) fun b o e => Heap.get?_push_of_some _ e, turn_tuple a _, ⟨_, Heap.get?_push_size _ rfl, rfl, rfl⟩, fun b hb => ?_, q⟩
    have e : b = s1.heap.objs.size := by simpa using hb
    subst e
    exact I1.fpOk (Nat.le_refl _) (I1.hok.fresh (Nat.le_refl _))
end
section
variable {K : PySem.W.Frag} {σ : L2.St} {H : Hp} {Q : VK} {D : Ends} {tt : TT} {te tl : TE} {ta : TA} {vs : List Nat} {g : TG} {tb : TS} {a : Addr} {xs : List V}
theorem z_forSq (k : tl σ H fun x H1 => zForS K g tb D σ x H1) : tFor (iSq K tl) g tb D σ H := k
theorem z_lcSq (k : tl σ H fun x H1 => zLcS K g tt te vs σ x H1 Q) : tLc (iSq K tl) g tt te vs σ H Q := k
theorem z_lc1 (k : ta σ H fun as H1 => zLcR1 g tt te vs σ as H1 Q) : tLc (iRng1 ta) g tt te vs σ H Q := k
theorem z_yes {QB : Bool → Hp → Prop} (k : QB true H) : tYes σ H QB := k
theorem z_accum {D : Addr} {acc : List V} {P : List V → Prop} (h : H D = some (.lst acc)) (hl : acc.length < 100000) (k : P acc) : ∃ acc, H D = some (.lst acc) ∧ acc.length < sizeLine ∧ P acc :=
  ⟨acc, h, Nat.lt_of_lt_of_le hl (by decide), k⟩
/-- over a list that stays -/
theorem z_forL (h : SqL K H a xs) (Pv : Nat → L2.St → Hp → Prop) (h0 : Pv 0 σ H) (hl : ∀ i σ' H', i ≤ xs.length → Pv i σ' H' → SqL K H' a xs)
    (hs : ∀ i x σ' H', xs[i]? = some x → Pv i σ' H' → g x σ' H' fun σ2 H2 => tb { D with nx := Pv (i + 1), ct := Pv (i + 1), bk := D.nx } σ2 H2) (hd : ∀ σ' H', Pv xs.length σ' H' → D.nx σ' H') : zForS K g tb D σ (.ref a) H :=
  ⟨a, rfl, .inl ⟨⟨xs, h⟩, for_list Pv h0 hl hs hd⟩⟩
theorem z_forT (h : SqT K H a xs) (Pv : Nat → L2.St → Hp → Prop) (h0 : Pv 0 σ H) (hl : ∀ i σ' H', i ≤ xs.length → Pv i σ' H' → SqT K H' a xs)
    (hs : ∀ i x σ' H', xs[i]? = some x → Pv i σ' H' → g x σ' H' fun σ2 H2 => tb { D with nx := Pv (i + 1), ct := Pv (i + 1), bk := D.nx } σ2 H2) (hd : ∀ σ' H', Pv xs.length σ' H' → D.nx σ' H') : zForS K g tb D σ (.ref a) H :=
  ⟨a, rfl, .inr ⟨⟨xs, h⟩, for_tup Pv h0 hl hs hd⟩⟩
theorem z_gName {v : V} {i : Nat} {P : L2.St → Hp → Prop} (k : P (σ.set i (some v)) H) : gName i v σ H P := k
theorem z_lcr1 {j : Int} (hb : -1000000 ≤ j ∧ j ≤ 1000000) (k : zLcR g tt te vs σ 0 j.toNat H Q) : zLcR1 g tt te vs σ [.int j] H Q := ⟨j, rfl, by omega, by omega, k⟩
theorem z_lcr {lo : Int} {n : Nat} (Pv : Addr → Nat → Hp → Prop) (h0 : ∀ D, H D = none → Pv D 0 (upd H D (.lst [])))
    (hs : ∀ D i H', H D = none → i < n → Pv D i H' → g (.int (lo + i)) (wipe σ vs) H' fun σ2 H2 => wipe σ2 vs = wipe σ vs ∧ tt σ2 H2 fun b H3 =>
      if b = true then te σ2 H3 fun y H4 => ∃ acc, H4 D = some (.lst acc) ∧ acc.length < sizeLine ∧ Pv D (i + 1) (upd H4 D (.lst (acc ++ [y]))) else Pv D (i + 1) H3)
    (hd : ∀ D H', H D = none → Pv D n H' → Q (.ref D) H') : zLcR g tt te vs σ lo n H Q :=
  fun D hD => lc_range (Pv D) (h0 D hD) (fun i H' hi p => hs D i H' hD hi p) (fun H' p => hd D H' hD p)
theorem z_lcl (h : SqL K H a xs) (Pv : Addr → Nat → Hp → Prop) (h0 : ∀ D, H D = none → Pv D 0 (upd H D (.lst []))) (hl : ∀ D i H', H D = none → i ≤ xs.length → Pv D i H' → SqL K H' a xs)
    (hs : ∀ D i x H', H D = none → xs[i]? = some x → Pv D i H' → g x (wipe σ vs) H' fun σ2 H2 => wipe σ2 vs = wipe σ vs ∧ tt σ2 H2 fun b H3 =>
      if b = true then te σ2 H3 fun y H4 => ∃ acc, H4 D = some (.lst acc) ∧ acc.length < sizeLine ∧ Pv D (i + 1) (upd H4 D (.lst (acc ++ [y]))) else Pv D (i + 1) H3)
    (hd : ∀ D H', H D = none → Pv D xs.length H' → Q (.ref D) H') : zLcS K g tt te vs σ (.ref a) H Q :=
  ⟨a, rfl, .inl ⟨⟨xs, h⟩, fun D hD => lc_list (Pv D) (h0 D hD) (fun i H' hi p => hl D i H' hD hi p) (fun i x H' hi p => hs D i x H' hD hi p) (fun H' p => hd D H' hD p)⟩⟩
theorem z_lct (h : SqT K H a xs) (Pv : Addr → Nat → Hp → Prop) (h0 : ∀ D, H D = none → Pv D 0 (upd H D (.lst []))) (hl : ∀ D i H', H D = none → i ≤ xs.length → Pv D i H' → SqT K H' a xs)
    (hs : ∀ D i x H', H D = none → xs[i]? = some x → Pv D i H' → g x (wipe σ vs) H' fun σ2 H2 => wipe σ2 vs = wipe σ vs ∧ tt σ2 H2 fun b H3 =>
      if b = true then te σ2 H3 fun y H4 => ∃ acc, H4 D = some (.lst acc) ∧ acc.length < sizeLine ∧ Pv D (i + 1) (upd H4 D (.lst (acc ++ [y]))) else Pv D (i + 1) H3)
    (hd : ∀ D H', H D = none → Pv D xs.length H' → Q (.ref D) H') : zLcS K g tt te vs σ (.ref a) H Q :=
  ⟨a, rfl, .inr ⟨⟨xs, h⟩, fun D hD => lc_tup (Pv D) (h0 D hD) (fun i H' hi p => hl D i H' hD hi p) (fun i x H' hi p => hs D i x H' hD hi p) (fun H' p => hd D H' hD p)⟩⟩
end
/-! ### zip -/
def zZip (K : PySem.W.Frag) (g : TG) (tb : TS) (D : Ends) (σ : L2.St) (vs : List V) (H1 : Hp) : Prop := ∃ a b xs ys, vs = [.ref a, .ref b] ∧ ((SqL K H1 a xs ∧ SqL K H1 b ys ∧ ∃ W : Nat → Nat → L2.St → Hp → Prop, (∃ m, W 0 m σ H1) ∧ ∀ i m σ H, W i m σ H →
  ((Itz K a b).stop i H ∧ D.nx σ H) ∨ ((Itz K a b).go i H ∧ ∃ N : L2.St → Hp → Prop, (∀ σ' H', N σ' H' → ∃ m', m' < m ∧ W (i + 1) m' σ' H') ∧ ∀ x H', (Itz K a b).yld i H x H' → g x σ H' fun σ2 H2 => tb { D with nx := N, ct := N, bk := D.nx } σ2 H2)) ∨
  (SqT K H1 a xs ∧ SqT K H1 b ys ∧ ∃ W : Nat → Nat → L2.St → Hp → Prop, (∃ m, W 0 m σ H1) ∧ ∀ i m σ H, W i m σ H →
  ((RZ.ItzT K a b).stop i H ∧ D.nx σ H) ∨ ((RZ.ItzT K a b).go i H ∧ ∃ N : L2.St → Hp → Prop, (∀ σ' H', N σ' H' → ∃ m', m' < m ∧ W (i + 1) m' σ' H') ∧ ∀ x H', (RZ.ItzT K a b).yld i H x H' → g x σ H' fun σ2 H2 => tb { D with nx := N, ct := N, bk := D.nx } σ2 H2)))
theorem Same.sqT {K : PySem.W.Frag} {H H' : Hp} {a : Addr} {xs : List V} (e : Same H H') (h : SqT K H a xs) : SqT K H' a xs := by
  rcases h with (h | ⟨o, h⟩) | h
  · exact .inl (.inl (e _ _ h))
  · exact .inl (.inr ⟨o, e _ _ h⟩)
  · exact .inr h
theorem Same.new {H H' : Hp} {p : Addr} {o : HO} (h : H' p = none) (e : Same H H') : Same H (upd H' p o) := fun b u q => lk_ne (ne_of_none (e b u q) h) (e b u q)
section
variable {K : PySem.W.Frag} {σ : L2.St} {H : Hp} {D : Ends} {ta : TA} {g : TG} {tb : TS} {a b : Addr} {xs ys : List V}
theorem z_forZ (k : ta σ H fun vs H1 => zZip K g tb D σ vs H1) : tFor (RZ.iZipA K ta) g tb D σ H := k
theorem z_zip {u v : Nat} (h : (SqL K H a xs ∧ SqL K H b ys) ∨ (SqT K H a xs ∧ SqT K H b ys)) (Pv : Nat → L2.St → Hp → Prop) (h0 : Pv 0 σ H) (hk : ∀ i σ' H', Pv i σ' H' → Same H H')
    (hs : ∀ i x y p σ' H', xs[i]? = some x → ys[i]? = some y → Pv i σ' H' → H' p = none → tb { D with nx := Pv (i + 1), ct := Pv (i + 1), bk := D.nx } ((σ'.set u (some x)).set v (some y)) (upd H' p (.tup [x, y])))
    (hd : ∀ σ' H', Pv (min xs.length ys.length) σ' H' → D.nx σ' H') : zZip K (gTup K 2 (gCons (gName u) (gCons (gName v) gNil))) tb D σ [.ref a, .ref b] H := by
  refine ⟨a, b, xs, ys, rfl, ?_⟩
  rcases h with ⟨h1, h2⟩ | ⟨h1, h2⟩
  · refine .inl ⟨h1, h2, fun i m σ H => m = min xs.length ys.length - i ∧ i ≤ min xs.length ys.length ∧ Pv i σ H, ⟨_, rfl, Nat.zero_le _, h0⟩, ?_⟩
    rintro i m σ' H' ⟨rfl, hi, p⟩
    have s := hk i σ' H' p
    have q1 := Same.seq s h1
    have q2 := Same.seq s h2
    by_cases hlt : i < min xs.length ys.length
    · have l1 : i < xs.length := by omega
      have l2 : i < ys.length := by omega
      refine .inr ⟨⟨xs, ys, xs[i], ys[i], q1, q2, by simp [l1], by simp [l2]⟩, Pv (i + 1), fun σ2 H2 p' => ⟨_, by omega, rfl, by omega, p'⟩, ?_⟩
      rintro x H2 ⟨T, x1, y1, rfl, hT, rfl, f1, f2⟩
      exact ⟨T, [x1, y1], rfl, .inl (.inl upd_same), rfl, x1, [y1], rfl, y1, [], rfl, rfl, hs i x1 y1 T σ' H' (f1 xs q1) (f2 ys q2) p hT⟩
    · have e : i = min xs.length ys.length := by omega
      subst e
      exact .inl ⟨⟨xs, ys, q1, q2, by omega⟩, hd σ' H' p⟩
  · refine .inr ⟨h1, h2, fun i m σ H => m = min xs.length ys.length - i ∧ i ≤ min xs.length ys.length ∧ Pv i σ H, ⟨_, rfl, Nat.zero_le _, h0⟩, ?_⟩
    rintro i m σ' H' ⟨rfl, hi, p⟩
    have s := hk i σ' H' p
    have q1 := Same.sqT s h1
    have q2 := Same.sqT s h2
    by_cases hlt : i < min xs.length ys.length
    · have l1 : i < xs.length := by omega
      have l2 : i < ys.length := by omega
      refine .inr ⟨⟨xs, ys, xs[i], ys[i], q1, q2, by simp [l1], by simp [l2]⟩, Pv (i + 1), fun σ2 H2 p' => ⟨_, by omega, rfl, by omega, p'⟩, ?_⟩
      rintro x H2 ⟨T, x1, y1, rfl, hT, rfl, f1, f2⟩
      exact ⟨T, [x1, y1], rfl, .inl (.inl upd_same), rfl, x1, [y1], rfl, y1, [], rfl, rfl, hs i x1 y1 T σ' H' (f1 xs q1) (f2 ys q2) p hT⟩
    · have e : i = min xs.length ys.length := by omega
      subst e
      exact .inl ⟨⟨xs, ys, q1, q2, by omega⟩, hd σ' H' p⟩
end
/-- an item of a list of ints -/
theorem map_int {xs : List Int} {i : Nat} {x : V} (h : (xs.map V.int)[i]? = some x) : i < xs.length ∧ x = .int (xs.getD i 0) := by
  rw [List.getElem?_map] at h
  cases e : xs[i]? with
  | none => rw [e] at h; cases h
  | some y =>
    rw [e] at h
    obtain ⟨l, _⟩ := List.getElem?_eq_some_iff.mp e
    exact ⟨l, by rw [List.getD_eq_getElem?_getD, e]; exact (Option.some.inj h).symm⟩
/-- a, b = a pair -/
theorem z_gTup2 {K : PySem.W.Frag} {H : Hp} {σ : L2.St} {P : L2.St → Hp → Prop} {t : Addr} {x y : V} {u v : Nat} (h : SqT K H t [x, y]) (k : P ((σ.set u (some x)).set v (some y)) H) : gTup K 2 (gCons (gName u) (gCons (gName v) gNil)) (.ref t) σ H P :=
  ⟨t, [x, y], rfl, h, rfl, x, [y], rfl, y, [], rfl, rfl, k⟩
/-! ### enumerate -/
def zEnum (K : PySem.W.Frag) (g : TG) (tb : TS) (D : Ends) (σ : L2.St) (vs : List V) (H1 : Hp) : Prop := ∃ a xs, vs = [.ref a] ∧ SqL K H1 a xs ∧ ∃ W : Nat → Nat → L2.St → Hp → Prop, (∃ m, W 0 m σ H1) ∧ ∀ i m σ H, W i m σ H →
  ((Ite K a).stop i H ∧ D.nx σ H) ∨ ((Ite K a).go i H ∧ ∃ N : L2.St → Hp → Prop, (∀ σ' H', N σ' H' → ∃ m', m' < m ∧ W (i + 1) m' σ' H') ∧ ∀ x H', (Ite K a).yld i H x H' → g x σ H' fun σ2 H2 => tb { D with nx := N, ct := N, bk := D.nx } σ2 H2)
def zLcE (K : PySem.W.Frag) (g : TG) (tt : TT) (te : TE) (vs : List Nat) (σ : L2.St) (as : List V) (H1 : Hp) (Q : VK) : Prop := ∃ a xs, as = [.ref a] ∧ SqL K H1 a xs ∧ ∀ D, H1 D = none → ∃ W : Nat → Nat → Hp → Prop, (∃ m, W 0 m (upd H1 D (.lst []))) ∧ ∀ i m H, W i m H →
  ((Ite K a).stop i H ∧ Q (.ref D) H) ∨ ((Ite K a).go i H ∧ ∃ Nx : Hp → Prop, (∀ H', Nx H' → ∃ m', m' < m ∧ W (i + 1) m' H') ∧ ∀ x H', (Ite K a).yld i H x H' → g x (wipe σ vs) H' fun σ2 H2 => wipe σ2 vs = wipe σ vs ∧ tt σ2 H2 fun b H3 =>
    if b = true then te σ2 H3 fun y H4 => ∃ acc, H4 D = some (.lst acc) ∧ acc.length < sizeLine ∧ Nx (upd H4 D (.lst (acc ++ [y]))) else Nx H3)
section
variable {K : PySem.W.Frag} {σ : L2.St} {H : Hp} {D : Ends} {ta : TA} {g : TG} {tb : TS} {a : Addr} {xs : List V} {tt : TT} {te : TE} {vs : List Nat} {Q : VK}
theorem z_forE (k : ta σ H fun vs H1 => zEnum K g tb D σ vs H1) : tFor (iEnum K ta) g tb D σ H := k
theorem z_lcE (k : ta σ H fun as H1 => zLcE K g tt te vs σ as H1 Q) : tLc (iEnum K ta) g tt te vs σ H Q := k
theorem z_enum {u v : Nat} (h : SqL K H a xs) (Pv : Nat → L2.St → Hp → Prop) (h0 : Pv 0 σ H) (hk : ∀ i σ' H', Pv i σ' H' → SqL K H' a xs)
    (hs : ∀ i x p σ' H', xs[i]? = some x → Pv i σ' H' → H' p = none → tb { D with nx := Pv (i + 1), ct := Pv (i + 1), bk := D.nx } ((σ'.set u (some (.int (i : Nat)))).set v (some x)) (upd H' p (.tup [.int (i : Nat), x])))
    (hd : ∀ σ' H', Pv xs.length σ' H' → D.nx σ' H') : zEnum K (gTup K 2 (gCons (gName u) (gCons (gName v) gNil))) tb D σ [.ref a] H := by
  refine ⟨a, xs, rfl, h, fun i m σ H => m = xs.length - i ∧ i ≤ xs.length ∧ Pv i σ H, ⟨_, rfl, Nat.zero_le _, h0⟩, ?_⟩
  rintro i m σ' H' ⟨rfl, hi, p⟩
  have q1 := hk i σ' H' p
  by_cases hlt : i < xs.length
  · refine .inr ⟨⟨xs, xs[i], q1, by simp [hlt]⟩, Pv (i + 1), fun σ2 H2 p' => ⟨_, by omega, rfl, by omega, p'⟩, ?_⟩
    rintro x H2 ⟨T, x1, rfl, hT, rfl, f1⟩
    exact ⟨T, [.int (i : Nat), x1], rfl, .inl (.inl upd_same), rfl, .int (i : Nat), [x1], rfl, x1, [], rfl, rfl, hs i x1 T σ' H' (f1 xs q1) p hT⟩
  · have e : i = xs.length := by omega
    subst e
    exact .inl ⟨⟨xs, q1, by omega⟩, hd σ' H' p⟩
theorem z_lce {u v : Nat} (h : SqL K H a xs) (Pv : Addr → Nat → Hp → Prop) (h0 : ∀ D, H D = none → Pv D 0 (upd H D (.lst []))) (hk : ∀ D i H', H D = none → Pv D i H' → SqL K H' a xs)
    (hs : ∀ D i x p H', H D = none → xs[i]? = some x → Pv D i H' → H' p = none → wipe (((wipe σ vs).set u (some (.int (i : Nat)))).set v (some x)) vs = wipe σ vs ∧ tt (((wipe σ vs).set u (some (.int (i : Nat)))).set v (some x)) (upd H' p (.tup [.int (i : Nat), x])) fun b H3 =>
      if b = true then te (((wipe σ vs).set u (some (.int (i : Nat)))).set v (some x)) H3 fun y H4 => ∃ acc, H4 D = some (.lst acc) ∧ acc.length < sizeLine ∧ Pv D (i + 1) (upd H4 D (.lst (acc ++ [y]))) else Pv D (i + 1) H3)
    (hd : ∀ D H', H D = none → Pv D xs.length H' → Q (.ref D) H') : zLcE K (gTup K 2 (gCons (gName u) (gCons (gName v) gNil))) tt te vs σ [.ref a] H Q := by
  refine ⟨a, xs, rfl, h, fun D hD => ⟨fun i m H => m = xs.length - i ∧ i ≤ xs.length ∧ Pv D i H, ⟨_, rfl, Nat.zero_le _, h0 D hD⟩, ?_⟩⟩
  rintro i m H' ⟨rfl, hi, p⟩
  have q1 := hk D i H' hD p
  by_cases hlt : i < xs.length
  · refine .inr ⟨⟨xs, xs[i], q1, by simp [hlt]⟩, Pv D (i + 1), fun H2 p' => ⟨_, by omega, rfl, by omega, p'⟩, ?_⟩
    rintro x H2 ⟨T, x1, rfl, hT, rfl, f1⟩
    exact ⟨T, [.int (i : Nat), x1], rfl, .inl (.inl upd_same), rfl, .int (i : Nat), [x1], rfl, x1, [], rfl, rfl, hs D i x1 T H' hD (f1 xs q1) p hT⟩
  · have e : i = xs.length := by omega
    subst e
    exact .inl ⟨⟨xs, q1, by omega⟩, hd D H' hD p⟩
end
/-! ### attributes -/
def zFld (K : PySem.W.Frag) (f : Str) (x : V) (H : Hp) (Q : VK) : Prop := ∃ a C dx fs v, x = .ref a ∧ H a = some (.ins C dx fs) ∧ Cls K C ∧ NoAttr K C f ∧ fs.lookup f = some v ∧ Q v H
def zSet (K : PySem.W.Frag) (f : Str) (y x : V) (H : Hp) (N : Hp → Prop) : Prop := ∃ a C dx fs, x = .ref a ∧ H a = some (.ins C dx fs) ∧ Cls K C ∧ NoAttr K C f ∧ fs.length < 1000 ∧ N (upd H a (.ins C dx (putF f y fs)))
theorem z_fldt {K : PySem.W.Frag} {σ : L2.St} {H : Hp} {ta : TE} {f : Str} {Q : VK} (k : ta σ H fun x H1 => zFld K f x H1 Q) : tFld K ta f σ H Q := k
theorem z_sett {K : PySem.W.Frag} {σ : L2.St} {H : Hp} {ta tv : TE} {f : Str} {D : Ends} (k : tv σ H fun y H1 => ta σ H1 fun x H2 => zSet K f y x H2 fun H3 => D.nx σ H3) : sFld K ta tv f D σ H := k
/-! ### slices -/
def uSl (K : PySem.W.Frag) : V → Option Int → Option Int → Hp → VK → Prop := fun x lo hi H Q => match x with
  | .ref a => rSlL K (.ref a) lo hi H Q ∨ rSlA K (.ref a) lo hi H Q
  | .str z => z.length ≤ sizeLine ∧ Q (.str (cutS z lo hi)) H
  | _ => False
theorem sl_uSl {X : Cx} : SlR X (uSl X.K) := by
  intro pins s σ H x v vl vu lo hi sl Q I rx hs pl pu h
  cases x <;> first | exact h.elim | skip
  · exact sl_str pins s σ H _ v vl vu lo hi sl Q I rx hs pl pu ⟨_, rfl, h.1, h.2⟩
  · exact (sl_list.or sl_tupA) pins s σ H _ v vl vu lo hi sl Q I rx hs pl pu h
section
variable {K : PySem.W.Frag} {σ : L2.St} {H : Hp} {Q : VK} {te : TE} {tl th : TO} {p : Addr} {xs : List V} {lo hi : Option Int} {QO : Option Int → Hp → Prop}
theorem z_sl {r : V → Option Int → Option Int → Hp → VK → Prop} (k : te σ H fun x H1 => tl σ H1 fun l H2 => th σ H2 fun u H3 => r x l u H3 Q) : tSl r te tl th σ H Q := k
theorem z_part (k : te σ H fun x H1 => ∃ i, x = .int i ∧ QO (some i) H1) : tPart te σ H QO := k
theorem z_noPart (k : QO none H) : tNoPart σ H QO := k
theorem z_parti {P : Int → Prop} {a : Int} (k : P a) : ∃ i, V.int a = .int i ∧ P i := ⟨a, rfl, k⟩
theorem z_slL (h : SqL K H p xs) (k : ∀ l, H l = none → Q (.ref l) (upd H l (.lst (cutV xs lo hi)))) : uSl K (.ref p) lo hi H Q := .inl ⟨p, xs, rfl, h, k⟩
theorem z_slS {x : Str} (h : x.length ≤ 100000) (k : Q (.str (cutS x lo hi)) H) : uSl K (.str x) lo hi H Q := ⟨Nat.le_trans h (by decide), k⟩
end
theorem cutV_ints (ns : List Int) (lo hi : Option Int) : cutV (ns.map V.int) lo hi = ((ns.drop (HT.sIx ns.length 0 lo)).take (HT.sIx ns.length ns.length hi - HT.sIx ns.length 0 lo)).map V.int := by
  unfold cutV; rw [List.length_map, List.map_take, List.map_drop]
theorem cutV_refs (ps : List Addr) (lo hi : Option Int) : cutV (ps.map V.ref) lo hi = ((ps.drop (HT.sIx ps.length 0 lo)).take (HT.sIx ps.length ps.length hi - HT.sIx ps.length 0 lo)).map V.ref := by
  unfold cutV; rw [List.length_map, List.map_take, List.map_drop]
theorem sIx_pos {n d : Nat} {i : Int} (h : 0 ≤ i) : HT.sIx n d (some i) = min i.toNat n := by
  show (if i < 0 then (i + (n : Int)).toNat else min i.toNat n) = _
  rw [if_neg (by omega)]
/-! ### comprehensions over zip -/
def zLcZ (K : PySem.W.Frag) (g : TG) (tt : TT) (te : TE) (vs : List Nat) (σ : L2.St) (as : List V) (H1 : Hp) (Q : VK) : Prop := ∃ a b xs ys, as = [.ref a, .ref b] ∧ ((SqL K H1 a xs ∧ SqL K H1 b ys ∧ ∀ D, H1 D = none → ∃ W : Nat → Nat → Hp → Prop, (∃ m, W 0 m (upd H1 D (.lst []))) ∧ ∀ i m H, W i m H →
  ((Itz K a b).stop i H ∧ Q (.ref D) H) ∨ ((Itz K a b).go i H ∧ ∃ Nx : Hp → Prop, (∀ H', Nx H' → ∃ m', m' < m ∧ W (i + 1) m' H') ∧ ∀ x H', (Itz K a b).yld i H x H' → g x (wipe σ vs) H' fun σ2 H2 => wipe σ2 vs = wipe σ vs ∧ tt σ2 H2 fun b H3 =>
    if b = true then te σ2 H3 fun y H4 => ∃ acc, H4 D = some (.lst acc) ∧ acc.length < sizeLine ∧ Nx (upd H4 D (.lst (acc ++ [y]))) else Nx H3)) ∨
  (SqT K H1 a xs ∧ SqT K H1 b ys ∧ ∀ D, H1 D = none → ∃ W : Nat → Nat → Hp → Prop, (∃ m, W 0 m (upd H1 D (.lst []))) ∧ ∀ i m H, W i m H →
  ((RZ.ItzT K a b).stop i H ∧ Q (.ref D) H) ∨ ((RZ.ItzT K a b).go i H ∧ ∃ Nx : Hp → Prop, (∀ H', Nx H' → ∃ m', m' < m ∧ W (i + 1) m' H') ∧ ∀ x H', (RZ.ItzT K a b).yld i H x H' → g x (wipe σ vs) H' fun σ2 H2 => wipe σ2 vs = wipe σ vs ∧ tt σ2 H2 fun b H3 =>
    if b = true then te σ2 H3 fun y H4 => ∃ acc, H4 D = some (.lst acc) ∧ acc.length < sizeLine ∧ Nx (upd H4 D (.lst (acc ++ [y]))) else Nx H3)))
section
variable {K : PySem.W.Frag} {σ : L2.St} {H : Hp} {ta : TA} {g : TG} {a b : Addr} {xs ys : List V} {tt : TT} {te : TE} {vs : List Nat} {Q : VK}
theorem z_lcZ (k : ta σ H fun as H1 => zLcZ K g tt te vs σ as H1 Q) : tLc (RZ.iZipA K ta) g tt te vs σ H Q := k
theorem z_lcz {u v : Nat} (h : (SqL K H a xs ∧ SqL K H b ys) ∨ (SqT K H a xs ∧ SqT K H b ys)) (Pv : Addr → Nat → Hp → Prop) (h0 : ∀ D, H D = none → Pv D 0 (upd H D (.lst []))) (hk : ∀ D i H', H D = none → Pv D i H' → Same H H')
    (hs : ∀ D i x y p H', H D = none → xs[i]? = some x → ys[i]? = some y → Pv D i H' → H' p = none → wipe (((wipe σ vs).set u (some x)).set v (some y)) vs = wipe σ vs ∧ tt (((wipe σ vs).set u (some x)).set v (some y)) (upd H' p (.tup [x, y])) fun b H3 =>
      if b = true then te (((wipe σ vs).set u (some x)).set v (some y)) H3 fun z H4 => ∃ acc, H4 D = some (.lst acc) ∧ acc.length < sizeLine ∧ Pv D (i + 1) (upd H4 D (.lst (acc ++ [z]))) else Pv D (i + 1) H3)
    (hd : ∀ D H', H D = none → Pv D (min xs.length ys.length) H' → Q (.ref D) H') : zLcZ K (gTup K 2 (gCons (gName u) (gCons (gName v) gNil))) tt te vs σ [.ref a, .ref b] H Q := by
  refine ⟨a, b, xs, ys, rfl, ?_⟩
  rcases h with ⟨h1, h2⟩ | ⟨h1, h2⟩
  · refine .inl ⟨h1, h2, fun D hD => ⟨fun i m H => m = min xs.length ys.length - i ∧ i ≤ min xs.length ys.length ∧ Pv D i H, ⟨_, rfl, Nat.zero_le _, h0 D hD⟩, ?_⟩⟩
    rintro i m H' ⟨rfl, hi, p⟩
    have s := hk D i H' hD p
    have q1 := Same.seq s h1
    have q2 := Same.seq s h2
    by_cases hlt : i < min xs.length ys.length
    · have l1 : i < xs.length := by omega
      have l2 : i < ys.length := by omega
      refine .inr ⟨⟨xs, ys, xs[i], ys[i], q1, q2, by simp [l1], by simp [l2]⟩, Pv D (i + 1), fun H2 p' => ⟨_, by omega, rfl, by omega, p'⟩, ?_⟩
      rintro x H2 ⟨T, x1, y1, rfl, hT, rfl, f1, f2⟩
      exact ⟨T, [x1, y1], rfl, .inl (.inl upd_same), rfl, x1, [y1], rfl, y1, [], rfl, rfl, hs D i x1 y1 T H' hD (f1 xs q1) (f2 ys q2) p hT⟩
    · have e : i = min xs.length ys.length := by omega
      subst e
      exact .inl ⟨⟨xs, ys, q1, q2, by omega⟩, hd D H' hD p⟩
  · refine .inr ⟨h1, h2, fun D hD => ⟨fun i m H => m = min xs.length ys.length - i ∧ i ≤ min xs.length ys.length ∧ Pv D i H, ⟨_, rfl, Nat.zero_le _, h0 D hD⟩, ?_⟩⟩
    rintro i m H' ⟨rfl, hi, p⟩
    have s := hk D i H' hD p
    have q1 := Same.sqT s h1
    have q2 := Same.sqT s h2
    by_cases hlt : i < min xs.length ys.length
    · have l1 : i < xs.length := by omega
      have l2 : i < ys.length := by omega
      refine .inr ⟨⟨xs, ys, xs[i], ys[i], q1, q2, by simp [l1], by simp [l2]⟩, Pv D (i + 1), fun H2 p' => ⟨_, by omega, rfl, by omega, p'⟩, ?_⟩
      rintro x H2 ⟨T, x1, y1, rfl, hT, rfl, f1, f2⟩
      exact ⟨T, [x1, y1], rfl, .inl (.inl upd_same), rfl, x1, [y1], rfl, y1, [], rfl, rfl, hs D i x1 y1 T H' hD (f1 xs q1) (f2 ys q2) p hT⟩
    · have e : i = min xs.length ys.length := by omega
      subst e
      exact .inl ⟨⟨xs, ys, q1, q2, by omega⟩, hd D H' hD p⟩
end
/-! ### constants of the module -/
theorem z_gint {X : Cx} {x : Str} {i : Int} {pos : Pos} (hm : ∃ t, X.mg x = some (.int i t)) (hg : Gl X x) (hd : (x == ("__debug__" : Str)) = false := by decide) : PE X (.Name x pos) (tC (.int i)) := by
  obtain ⟨t, hm⟩ := hm
  exact pe_glob hg hm ⟨t, rfl⟩ hd
theorem z_gstr {X : Cx} {x y : Str} {pos : Pos} (hm : ∃ t, X.mg x = some (.str y t)) (hg : Gl X x) (hd : (x == ("__debug__" : Str)) = false := by decide) : PE X (.Name x pos) (tC (.str y)) := by
  obtain ⟨t, hm⟩ := hm
  exact pe_glob hg hm ⟨t, rfl⟩ hd

local macro_rules | `(tactic| walk_at "ne") => `(tactic| with_reducible first | assumption | exact Ne.symm (by assumption) | exact ne_n (by assumption) (by assumption) | exact Ne.symm (ne_n (by assumption) (by assumption)))
local macro_rules | `(tactic| walk_at "df") => `(tactic| (intro zz; cases zz; done))
local macro_rules | `(tactic| walk_at "ns") => `(tactic| first | exact NotSt.ints | exact NotSt.refs | exact NotSt.strs | (intro _ _ _ zz; cases zz; done))
local macro_rules | `(tactic| walk_at "lk") => `(tactic| with_reducible first | assumption | ((show upd _ _ _ _ = _); first | exact upd_same | exact lk_new (by assumption) (by walk_at "lk") | ((fail_if_success refine lk_new (by assumption) ?_); first | exact lk_ne (by walk_at "ne") (by walk_at "lk") | exact lk_df (by walk_at "lk") (by walk_at "lk") (by with_unfolding_all walk_at "df"))) | exact ExD.lk (by assumption) (by walk_at "lk") (by with_unfolding_all walk_at "ns") | exact Same.lk (by assumption) (by walk_at "lk"))
local macro_rules | `(tactic| walk_at "sqL") => `(tactic| with_reducible first | assumption | exact SqL.of (by walk_at "lk") | ((show SqL _ (upd _ _ _) _ _); first | exact sqL_new (by assumption) (by walk_at "sqL") | exact sqL_ne (by walk_at "ne") (by walk_at "sqL")) | exact Same.seq (by assumption) (by walk_at "sqL"))
local macro_rules | `(tactic| walk_at "sqT") => `(tactic| with_reducible first | assumption | exact SqT.of (by walk_at "lk") | ((show SqT _ (upd _ _ _) _ _); first | exact sqT_new (by assumption) (by walk_at "sqT") | exact sqT_ne (by walk_at "ne") (by walk_at "sqT")))
local macro_rules | `(tactic| walk_at "sq") => `(tactic| first | exact Or.inl (by walk_at "sqL") | exact Or.inr (by walk_at "sqT"))
local macro_rules | `(tactic| walk_at "mulok") => `(tactic| first | exact mul1 (by omega) | exact mul2 (by omega))
local macro_rules | `(tactic| walk_at "few") => `(tactic| (simp only [List.length_cons, List.length_nil]; with_unfolding_all decide))
local macro_rules | `(tactic| walk_at "zo") => `(tactic| (with_reducible first
  | refine z_add ?_ | refine z_sub ?_ | refine z_lt ?_ | refine z_le ?_ | refine z_gt ?_ | refine z_ge ?_ | refine z_eq ?_ | refine z_ne ?_ | refine z_neg ?_ | refine z_int ?_ | refine z_max ?_ | refine z_min ?_ | refine z_abs ?_
  | refine z_eqS ?_ | refine z_neS ?_ | refine z_eqIS ?_ | refine z_eqSI ?_ | refine z_neIS ?_ | refine z_neSI ?_ | refine z_eqB ?_ | refine z_neB ?_ | refine z_eqN ?_ | refine z_neN ?_ | refine z_is ?_ | refine z_isNot ?_ | refine z_isB ?_ | refine z_isNotB ?_ | refine z_isbb ?_ | refine z_isbi ?_
  | refine z_ltS ?_ | refine z_leS ?_ | refine z_gtS ?_ | refine z_geS ?_ | refine z_isii ?_ | refine z_isib ?_))
local macro_rules | `(tactic| walk_at "zp") => `(tactic| with_reducible first
  | ((show uMul _ _ _ _); refine z_mul (by walk_at "mulok") ?_)
  | ((show uDiv _ _ _ _); refine z_div (by exact div1 (by omega)) ?_)
  | ((show uMod _ _ _ _); refine z_mod (by omega) ?_)
  | ((show uPow _ _ _ _); refine z_pow (by with_unfolding_all exact ⟨by decide, by decide, by decide⟩) ?_; (simp only [Int.reduceToNat, Int.reducePow]))
  | ((show uIx _ _ _ _ _); refine z_ix (by walk_at "sq") (by first | with_unfolding_all rfl | assumption) ?_)
  | ((show uLen _ _ _ _); refine z_len (by walk_at "sq") ?_)
  | ((show uList _ _ _ _); refine z_list (by walk_at "sq") ?_; intro _ _)
  | ((show uSl _ (V.ref _) _ _ _ _); refine z_slL (by walk_at "sqL") ?_; intro _ _)
  | ((show rSetL _ _ _ _ _); refine z_setL (by walk_at "lk") (by with_unfolding_all rfl) ?_)
  | ((show tyV _ "list" _ _ ∧ _); refine ⟨tyL (by walk_at "lk"), ?_⟩)
  | ((show uIsi _ [_, V.ty "list"] _ _); refine z_isll (by walk_at "lk") ?_)
  | ((show uIsi _ [_, V.ty "tuple"] _ _); refine z_istt (by walk_at "lk") ?_)
  | ((show zNewL _ _ _); refine z_newL (by walk_at "few") ?_; intro _ _)
  | ((show zNewT _ _ _); refine z_newT (by walk_at "few") ?_; intro _ _))
local macro_rules | `(tactic| walk_at "ze") => `(tactic| (with_reducible first
  | ((show tVar _ _ _ _); refine z_var (by with_unfolding_all rfl) ?_) | refine z_c ?_ | refine z_op ?_ | refine z_cons ?_ | refine z_nil ?_ | refine z_cal ?_ | refine z_cb ?_ | refine z_test ?_ | refine z_bl ?_ | refine z_un ?_
  | refine z_tru ?_ | refine z_trub ?_ | refine z_trui ?_ | refine z_and ?_ | refine z_or ?_ | refine z_not ?_ | refine z_andV ?_ | refine z_orV ?_ | refine z_notV ?_ | refine z_bl1 ?_ | refine z_if ?_ | refine z_lst ?_ | refine z_tup ?_ | refine z_chain ?_))
local macro_rules | `(tactic| walk_at "zs") => `(tactic| (with_reducible first
  | refine z_seq ?_ | refine z_asg ?_ | refine z_ifS ?_ | refine z_ret ?_ | refine z_drop ?_ | refine z_next ?_ | refine z_brk ?_ | refine z_cont ?_ | refine z_retN ?_ | refine z_iteT ?_ | refine z_iteF ?_ | refine z_for1 ?_ | refine z_for2 ?_ | refine z_asgS ?_ | refine z_bm ?_ | refine z_forSq ?_ | refine z_forZ ?_ | refine z_forE ?_ | refine z_lcE ?_ | refine z_lcZ ?_ | refine z_fldt ?_ | refine z_sett ?_ | refine z_lcSq ?_ | refine z_lc1 ?_ | refine z_yes ?_ | refine z_gName ?_ | refine z_sl ?_ | refine z_part ?_ | refine z_noPart ?_ | refine z_parti ?_))
local macro_rules | `(tactic| walk_at "z") => `(tactic| first | walk_at "ze" | walk_at "zo" | walk_at "zs" | walk_at "zp" | (dsimp only [List.set]))
local macro_rules | `(tactic| walk_at "zz") => `(tactic| repeat (walk_at "z"))
local macro_rules | `(tactic| walk_at "zd") => `(tactic| ((with_reducible show ite _ _ _); first | refine z_iteT' (by decide +kernel) ?_ | refine z_iteF' (by decide +kernel) ?_))
local macro_rules | `(tactic| walk_at "zx") => `(tactic| repeat (first | walk_at "z" | walk_at "zd"))

/-! own classes: what is known of each, by its name -/
/-- where the classes stand, and which there are -/
structure CEnv where
  cls : Str → Addr
  has : Str → Prop
  all : Str → Prop
/-- the package's classes below another one -/
def SUBE : List (Str × Str) := [("InvalidSchema", "SurenearError"), ("InvalidRecord", "SurenearError"), ("InvalidKey", "SurenearError"), ("InvalidFilter", "SurenearError"), ("InvalidQuery", "SurenearError"), ("InvalidRule", "SurenearError"), ("InvalidCode", "SurenearError")]
def SUBE2 : List (Str × Str) := [("InvalidOperation", "SurenearError"), ("InvalidSource", "SurenearError"), ("NoSuchMoment", "SurenearError"), ("NotPinned", "SurenearError"), ("NoSuchQuery", "SurenearError"), ("NotNow", "SurenearError"), ("NotUp", "SurenearError")]
def SUBP : List (Str × Str) := [("Norms", "Fact"), ("Parts", "Fact"), ("Cell", "Fact"), ("Box", "Fact"), ("Differ", "Fact"), ("Counts", "Fact"), ("Names", "Fact"), ("Range", "FieldFact"), ("Values", "FieldFact"), ("Range", "Fact"), ("Values", "Fact"), ("FieldFact", "Fact"),
  ("Every", "Condition"), ("Has", "Condition"), ("Compare", "Condition"), ("OneOf", "Condition"), ("Both", "Condition"), ("Either", "Condition"), ("Negation", "Condition")]
def SUB (x y : Str) : Bool := x == y || SUBP.contains (x, y) || SUBE.contains (x, y) || SUBE2.contains (x, y)
structure ClsOk (K : PySem.W.Frag) (c : CEnv) (x : Str) (gs : List Str) : Prop where
  cl : Cls K (c.cls x)
  na : ∀ f, gs.contains f = true → NoAttr K (c.cls x) f
  ha : PySem.W.findIn K (.ref (c.cls x)) "__class__" = some (some (.builtin "object.__class__"))
  hn : PySem.W.specialIn K (.builtin "object.__class__") "__get__" = some (some (.builtin "getset_descriptor.__get__"))
  htk : PySem.W.takesIn K (.builtin "object.__class__") = some true
  hm : PySem.W.mroIn K (c.cls x) (.type "object") = some true
  sub : ∀ y, c.has y → PySem.W.kitOne K (.ref (c.cls x)) (.ref (c.cls y)) = some (SUB x y)
  sb : ∀ y, c.has y → PySem.W.subIn K (.ref (c.cls x)) (.ref (c.cls y)) = some (SUB x y)
  al : c.all x
  inj : ∀ y, c.all y → c.cls x = c.cls y → x = y
/-- the class named, as isinstance asks of it -/
structure IsF (K : PySem.W.Frag) (c : CEnv) (x : Str) : Prop where
  has : c.has x
  ki : ∀ n, ["int", "bool", "str", "NoneType", "tuple", "list", "dict"].contains n = true → PySem.W.kitOne K (.type n) (.ref (c.cls x)) = some false
  si : ∀ n, ["int", "bool", "str", "NoneType", "tuple", "list", "dict"].contains n = true → PySem.W.subIn K (.type n) (.ref (c.cls x)) = some false
/-- names and places that are all different -/
theorem lk_inj : ∀ {l : List (Str × Addr)}, (l.map (·.1)).Nodup → (l.map (·.2)).Nodup → ∀ {x y : Str}, x ∈ l.map (·.1) → y ∈ l.map (·.1) → (l.lookup x).getD 0 = (l.lookup y).getD 0 → x = y
  | [], _, _, _, _, h, _, _ => by cases h
  | z :: l, h1, h2, x, y, hx, hy, e => by
    rw [List.map_cons, List.nodup_cons] at h1 h2
    have mem : ∀ {u : Str} {l : List (Str × Addr)}, u ∈ l.map (·.1) → ∃ a, l.lookup u = some a ∧ a ∈ l.map (·.2) := by
      intro u l
      induction l with
      | nil => intro h; cases h
      | cons w l ih =>
        intro h
        rw [List.lookup_cons]
        by_cases q : (u == w.1) = true
        · rw [q]; exact ⟨w.2, rfl, by rw [List.map_cons]; exact List.mem_cons_self ..⟩
        · have q' : (u == w.1) = false := by simpa using q
          rw [q']
          rw [List.map_cons] at h
          rcases List.mem_cons.mp h with h | h
          · rw [h] at q; simp at q
          · obtain ⟨a, h1, h2⟩ := ih h
            exact ⟨a, h1, by rw [List.map_cons]; exact List.mem_cons_of_mem _ h2⟩
    rw [List.lookup_cons, List.lookup_cons] at e
    by_cases qx : (x == z.1) = true
    · by_cases qy : (y == z.1) = true
      · rw [beq_iff_eq] at qx qy; rw [qx, qy]
      · have qy' : (y == z.1) = false := by simpa using qy
        rw [qx, qy'] at e
        rw [List.map_cons] at hy
        rcases List.mem_cons.mp hy with hy | hy
        · rw [hy] at qy; simp at qy
        · obtain ⟨a, k1, k2⟩ := mem hy
          rw [k1] at e
          exact absurd (show z.2 ∈ l.map (·.2) from (show z.2 = a from e) ▸ k2) h2.1
    · have qx' : (x == z.1) = false := by simpa using qx
      rw [List.map_cons] at hx hy
      rcases List.mem_cons.mp hx with hx | hx
      · rw [hx] at qx; simp at qx
      · by_cases qy : (y == z.1) = true
        · rw [qx', qy] at e
          obtain ⟨a, k1, k2⟩ := mem hx
          rw [k1] at e
          exact absurd (show z.2 ∈ l.map (·.2) from (show z.2 = a from e.symm) ▸ k2) h2.1
        · have qy' : (y == z.1) = false := by simpa using qy
          rcases List.mem_cons.mp hy with hy | hy
          · rw [hy] at qy; simp at qy
          · rw [qx', qy'] at e
            exact lk_inj h1.2 h2.2 hx hy e
/-- an instance stands at p -/
def InsAt (K : PySem.W.Frag) (c : CEnv) (H : Hp) (p : Addr) (x : Str) (fs : List (Str × V)) : Prop := ClsOk K c x (fs.map (·.1)) ∧ ∃ dx, H p = some (.ins (c.cls x) dx fs)
theorem InsAt.same {K : PySem.W.Frag} {c : CEnv} {H H' : Hp} {p : Addr} {x : Str} {fs : List (Str × V)} (s : Same H H') (i : InsAt K c H p x fs) : InsAt K c H' p x fs := ⟨i.1, i.2.choose, s _ _ i.2.choose_spec⟩
theorem NotSt.ins {C dx : Addr} {fs : List (Str × V)} : NotSt (.ins C dx fs) := fun _ _ _ z => by cases z
theorem NotSt.tup {xs : List V} : NotSt (.tup xs) := fun _ _ _ z => by cases z
theorem InsAt.exd {K : PySem.W.Frag} {c : CEnv} {H H' : Hp} {p : Addr} {x : Str} {fs : List (Str × V)} (s : ExD H H') (i : InsAt K c H p x fs) : InsAt K c H' p x fs := ⟨i.1, i.2.choose, s _ _ NotSt.ins i.2.choose_spec⟩
theorem InsAt.new {K : PySem.W.Frag} {c : CEnv} {H : Hp} {p r : Addr} {x : Str} {fs : List (Str × V)} {o : HO} (h : H r = none) (i : InsAt K c H p x fs) : InsAt K c (upd H r o) p x fs := ⟨i.1, i.2.choose, lk_new h i.2.choose_spec⟩
theorem InsAt.putL {K : PySem.W.Frag} {c : CEnv} {H : Hp} {p r : Addr} {x : Str} {fs : List (Str × V)} {xs : List V} {o : HO} (h : H r = some (.lst xs)) (i : InsAt K c H p x fs) : InsAt K c (upd H r o) p x fs := ⟨i.1, i.2.choose, lk_df i.2.choose_spec h (fun z => by cases z)⟩
/-! ### making, methods, properties, == -/
structure Mkr (P : Program) (w : World) (K : PySem.W.Frag) (mg : Str → Option Value) (base : Heap) (k : Nat) (C : Addr) (ps : List Str) (sp : Sp) : Prop where
  ex : ∃ (f : Addr) (fd : FuncData), Mk K C f ∧ Binds K fd ps [] ∧ FnOk P w K mg base CX0 k f fd ps sp
structure Mth (P : Program) (w : World) (K : PySem.W.Frag) (mg : Str → Option Value) (base : Heap) (k : Nat) (C : Addr) (m : Str) (ps : List Str) (sp : Sp) : Prop where
  ex : ∃ (f : Addr) (fd : FuncData), Meth K C m f ∧ Binds K fd ps [] ∧ FnOk P w K mg base CX0 k f fd ps sp
structure Prp (P : Program) (w : World) (K : PySem.W.Frag) (mg : Str → Option Value) (base : Heap) (k : Nat) (C : Addr) (m : Str) (ps : List Str) (sp : Sp) : Prop where
  ex : ∃ (p f : Addr) (fd : FuncData), PropOf K C m p f ∧ Binds K fd ps [] ∧ FnOk P w K mg base CX0 k f fd ps sp
structure ClsF (K : PySem.W.Frag) (mg : Str → Option Value) (c : CEnv) (x : Str) (gs : List Str) : Prop where
  ok : ClsOk K c x gs
  is : c.has x → IsF K c x
  mg : mg x = some (.ref (c.cls x))
def tMk (K : PySem.W.Frag) (c : CEnv) (x : Str) (gs : List Str) (sp : Sp) (t : TA) : TE := fun σ H Q => t σ H fun vs H1 => ClsOk K c x gs → ∀ p dx, H1 p = none → H1 dx = none → dx ≠ p →
  sp (.ref p :: vs) (upd (upd H1 dx (.own p)) p (.ins (c.cls x) dx [])) (fun v H2 => v = .non ∧ Q (.ref p) H2) E0
def tMt (c : CEnv) (x m : Str) (sp : Sp) (ta : TE) (t : TA) : TE := fun σ H Q => ta σ H fun v H1 => ∃ a dx fs, v = .ref a ∧ H1 a = some (.ins (c.cls x) dx fs) ∧ fs.lookup m = none ∧ t σ H1 fun vs H2 => sp (v :: vs) H2 Q E0
def tPr (c : CEnv) (x : Str) (sp : Sp) (ta : TE) : TE := fun σ H Q => ta σ H fun v H1 => ∃ a dx fs, v = .ref a ∧ H1 a = some (.ins (c.cls x) dx fs) ∧ sp [.ref a] H1 Q E0
def tCls (K : PySem.W.Frag) (c : CEnv) (x : Str) : TE := fun _ H Q => IsF K c x → Q (.ref (c.cls x)) H
/-- == of two instances of one class, by its own __eq__ -/
def uEqO (c : CEnv) (x : Str) (sp : Sp) : R2 := fun u v H Q => ∃ a b dx dy fs gs, u = .ref a ∧ v = .ref b ∧ H a = some (.ins (c.cls x) dx fs) ∧ H b = some (.ins (c.cls x) dy gs) ∧ sp [.ref a, .ref b] H (fun z H' => ∃ k, z = .bl k ∧ Q (.bl k) H') E0
section
variable {X : Cx} {c : CEnv} {k : Nat} {x m : Str} {ps gs : List Str} {sp : Sp} {p pos apos : Pos} {e o : Expr} {es : List Expr} {t : TA} {ta : TE}
theorem z_make (CF : ClsF X.K X.mg c x gs) (M : Mkr X.prog X.w X.K X.mg X.base k (c.cls x) ps sp) (hr : Room (k + 1) X.A) (hg : Gl X x) (ha : PA X (e :: es) t) (hdb : (x == ("__debug__" : Str)) = false := by decide)
    (he : starEach (e :: es) X.env = (false, eval e X.env) :: starEach es X.env := by rfl) (hpl : (backTo pos (starEach es X.env)).any (·.1) = false := by rfl) : PE X (.Call (.Name x p) (e :: es) [] pos) (tMk X.K c x gs sp t) := by
  obtain ⟨f, fd, hM, hb, F⟩ := M.ex
  have h := pe_make (E := E0) (dvs := []) (p := p) (pos := pos) hM F hr hg CF.mg hb .nil pass0 ha hdb he hpl
  refine ⟨fun pins s σ H Q I q => h.run pins s σ H Q I ?_⟩
  simp only [tMake, List.append_nil]
  have e : (t σ H fun vs H1 => ClsOk X.K c x gs → ∀ p dx, H1 p = none → H1 dx = none → dx ≠ p → sp (.ref p :: vs) (upd (upd H1 dx (.own p)) p (.ins (c.cls x) dx [])) (fun v H2 => v = .non ∧ Q (.ref p) H2) E0)
      = (t σ H fun vs H1 => ∀ p dx, H1 p = none → H1 dx = none → dx ≠ p → sp (.ref p :: vs) (upd (upd H1 dx (.own p)) p (.ins (c.cls x) dx [])) (fun v H2 => v = .non ∧ Q (.ref p) H2) E0) := by
    congr 1; funext vs H1; exact propext ⟨fun h => h CF.ok, fun h _ => h⟩
  rw [← e]; exact q
theorem z_meth {pl : Sem Bool} (he : PE X o ta) (CF : ClsF X.K X.mg c x gs) (M : Mth X.prog X.w X.K X.mg X.base k (c.cls x) m ps sp) (hr : Room k X.A) (ha : PA X (e :: es) t)
    (hst : starEach (e :: es) X.env = (false, eval e X.env) :: starEach es X.env := by rfl) (hpl : (backTo pos (starEach es X.env)).any (·.1) = false := by rfl)
    (ht : eval (.Call (.Attribute o m apos) (e :: es) [] pos) X.env = (do
      let ov ← eval o X.env
      standAt apos.atName
      let (f, first) ← holding [ov] (getMethod ov m pl)
      callWith pos f first (backTo pos (starEach (e :: es) X.env)) (backToKw pos (keywordEach [] X.env))) := by rfl) : PE X (.Call (.Attribute o m apos) (e :: es) [] pos) (tMt c x m sp ta t) := by
  obtain ⟨f, fd, hM, hb, F⟩ := M.ex
  have h := pe_meth (E := E0) (dvs := []) he CF.ok.cl hM F hr hb .nil pass0 ha hst hpl ht
  have e : tMeth (c.cls x) m sp [] E0 ta t = tMt c x m sp ta t := by
    funext σ H Q; simp only [tMeth, tMt, List.append_nil]
  rw [← e]; exact h
theorem z_meth0 {pl : Sem Bool} (he : PE X o ta) (CF : ClsF X.K X.mg c x gs) (M : Mth X.prog X.w X.K X.mg X.base k (c.cls x) m ps sp) (hr : Room k X.A)
    (ht : eval (.Call (.Attribute o m apos) [] [] pos) X.env = (do
      let ov ← eval o X.env
      standAt apos.atName
      let (f, first) ← holding [ov] (getMethod ov m pl)
      callWith pos f first (backTo pos (starEach [] X.env)) (backToKw pos (keywordEach [] X.env))) := by rfl) : PE X (.Call (.Attribute o m apos) [] [] pos) (tMt c x m sp ta tNil) := by
  obtain ⟨f, fd, hM, hb, F⟩ := M.ex
  have h := pe_meth0 (E := E0) (dvs := []) he CF.ok.cl hM F hr hb .nil pass0 ht
  refine ⟨fun pins s σ H Q I q => h.run pins s σ H Q I ?_⟩
  first
    | exact q
    | (simp only [List.append_nil] at *; exact q)
theorem z_prop (he : PE X e ta) (CF : ClsF X.K X.mg c x gs) (M : Prp X.prog X.w X.K X.mg X.base k (c.cls x) m ps sp) (hr : Room (k + 1) X.A) (hab : attributeBase e m X.env (eval e X.env) = eval e X.env) : PE X (.Attribute e m pos) (tPr c x sp ta) := by
  obtain ⟨q, f, fd, hM, hb, F⟩ := M.ex
  exact pe_prop (E := E0) (dvs := []) he CF.ok.cl hM F hr hb .nil pass0 hab
theorem z_cls (CF : ClsF X.K X.mg c x gs) (I' : IsF X.K c x) (hg : Gl X x) (hdb : (x == ("__debug__" : Str)) = false := by decide) : PE X (.Name x pos) (tCls X.K c x) :=
  ⟨fun _ _ _ H _ I h => ld_glob I hg CF.mg ⟨.ref (c.cls x), H, I, rfl, h I'⟩ hdb⟩
theorem op_eqO (CF : ClsF X.K X.mg c x gs) (M : Mth X.prog X.w X.K X.mg X.base k (c.cls x) "__eq__" ps sp) (hr : Room k X.A) : OpR X (compareOp .Eq) (uEqO c x sp) := by
  intro pins s σ H u v y z Q I rx ry hq
  obtain ⟨f, fd, hM, hb, F⟩ := M.ex
  obtain ⟨a, b, dx, dy, fs, hs, rfl, rfl, ha, hb', q⟩ := hq
  cases rx
  cases ry
  obtain ⟨mA, J, _⟩ := ins_get I.hok ha
  obtain ⟨mB, J', _⟩ := ins_get I.hok hb'
  obtain ⟨od, J, _⟩ := J.look
  obtain ⟨od', J', _⟩ := J'.look
  obtain ⟨m, hF⟩ := I.fr
  show wpAny (model X.prog X.w) X.A (richCompare .Eq (.ref a) (.ref b)) (EP X pins σ Q) X.xe s
  refine PySem.W.cmp_K (op := .Eq) (tb := .ref (c.cls x)) hr.units0 hF I.ok.mod.kin J J'.type (by simp [PySem.W.notFirst]) hM.at_ hM.fn ?_
  have r2 : Vals [V.ref a, V.ref b] [Value.ref a, Value.ref b] := .cons rfl (.cons rfl .nil)
  refine thn (run_fn (Q := fun z H' => ∃ k, z = .bl k ∧ Q (.bl k) H') (E := E0) (dvs := []) F hr hb .nil pass0 I r2 (by simpa using q)) fun w s' hw => ?_
  obtain ⟨zv, H', I', rz, hq⟩ := hw
  obtain ⟨kk, ez, q'⟩ := hq
  subst ez
  have rz2 : w = Value.bool kk := rz
  subst rz2
  exact ⟨.bl kk, H', I', rfl, q'⟩
end
/-- == of an instance and a tuple, by the instance's own __eq__ -/
def uEqT (K : PySem.W.Frag) (c : CEnv) (x : Str) (sp : Sp) : R2 := fun u v H Q => ∃ a b dx fs xs, u = .ref a ∧ v = .ref b ∧ H a = some (.ins (c.cls x) dx fs) ∧ SqT K H b xs ∧ sp [.ref a, .ref b] H (fun z H' => ∃ k, z = .bl k ∧ Q (.bl k) H') E0
section
variable {X : Cx} {c : CEnv} {k : Nat} {x : Str} {ps gs : List Str} {sp : Sp}
theorem op_eqT (CF : ClsF X.K X.mg c x gs) (IF : IsF X.K c x) (M : Mth X.prog X.w X.K X.mg X.base k (c.cls x) "__eq__" ps sp) (hr : Room k X.A) : OpR X (compareOp .Eq) (uEqT X.K c x sp) := by
  intro pins s σ H u v y z Q I rx ry hq
  obtain ⟨f, fd, hM, hb, F⟩ := M.ex
  obtain ⟨a, b, dx, fs, xs, rfl, rfl, ha, hb', q⟩ := hq
  cases rx
  cases ry
  obtain ⟨mA, J, _⟩ := ins_get I.hok ha
  obtain ⟨od, J, _⟩ := J.look
  obtain ⟨its, r, hT, _⟩ := I.tuple hb'
  have hT : s.heap.IsTuple b its.toArray := hT
  obtain ⟨oT, hoT, hcT, _⟩ := id hT
  have LT : PySem.W.Looks (model X.prog X.w) s.heap (typeOf (.ref b)) (.type "tuple") := fun A Q E s k q => wpAny_typeOf_ref (k _ _ hoT) (by rw [hcT]; exact q)
  obtain ⟨m, hF⟩ := I.fr
  show wpAny (model X.prog X.w) X.A (richCompare .Eq (.ref a) (.ref b)) (EP X pins σ Q) X.xe s
  have hn : PySem.W.notFirst X.K (c.cls x) (.type "tuple") = true := by
    unfold PySem.W.notFirst
    rw [IF.si "tuple" (by decide)]
    simp
  refine PySem.W.cmp_K (op := .Eq) (tb := .type "tuple") hr.units0 hF I.ok.mod.kin J LT hn hM.at_ hM.fn ?_
  have r2 : Vals [V.ref a, V.ref b] [Value.ref a, Value.ref b] := .cons rfl (.cons rfl .nil)
  refine thn (run_fn (Q := fun z H' => ∃ k, z = .bl k ∧ Q (.bl k) H') (E := E0) (dvs := []) F hr hb .nil pass0 I r2 (by simpa using q)) fun w s' hw => ?_
  obtain ⟨zv, H', I', rz, hq⟩ := hw
  obtain ⟨kk, ez, q'⟩ := hq
  subst ez
  have rz2 : w = Value.bool kk := rz
  subst rz2
  exact ⟨.bl kk, H', I', rfl, q'⟩
end
section
variable {K : PySem.W.Frag} {c : CEnv} {x f : Str} {gs : List Str} {H : Hp} {Q : VK} {p dx : Addr} {fs : List (Str × V)} {v : V} {σ : L2.St} {t : TA} {ta : TE} {sp : Sp} {m : Str}
theorem z_fld (ok : ClsOk K c x gs) (h : H p = some (.ins (c.cls x) dx fs)) (l : fs.lookup f = some v) (n : gs.contains f = true) (k : Q v H) : zFld K f (.ref p) H Q := ⟨p, _, dx, fs, v, rfl, h, ok.cl, ok.na f n, l, k⟩
theorem z_set {N : Hp → Prop} {y : V} (ok : ClsOk K c x gs) (h : H p = some (.ins (c.cls x) dx fs)) (n : gs.contains f = true) (l : fs.length < 1000) (k : N (upd H p (.ins (c.cls x) dx (putF f y fs)))) : zSet K f y (.ref p) H N := ⟨p, _, dx, fs, rfl, h, ok.cl, ok.na f n, l, k⟩
theorem z_mk (k : t σ H fun vs H1 => ClsOk K c x gs → ∀ p dx, H1 p = none → H1 dx = none → dx ≠ p → sp (.ref p :: vs) (upd (upd H1 dx (.own p)) p (.ins (c.cls x) dx [])) (fun v H2 => v = .non ∧ Q (.ref p) H2) E0) : tMk K c x gs sp t σ H Q := k
theorem z_mt (k : ta σ H fun v H1 => ∃ a dx fs, v = .ref a ∧ H1 a = some (.ins (c.cls x) dx fs) ∧ fs.lookup m = none ∧ t σ H1 fun vs H2 => sp (v :: vs) H2 Q E0) : tMt c x m sp ta t σ H Q := k
theorem z_pr (k : ta σ H fun v H1 => ∃ a dx fs, v = .ref a ∧ H1 a = some (.ins (c.cls x) dx fs) ∧ sp [.ref a] H1 Q E0) : tPr c x sp ta σ H Q := k
theorem z_clsv (k : IsF K c x → Q (.ref (c.cls x)) H) : tCls K c x σ H Q := k
theorem z_isIns {y : Str} (i : IsF K c y) (ok : ClsOk K c x gs) (h : H p = some (.ins (c.cls x) dx fs)) (k : Q (.bl (SUB x y)) H) : uIsi K [.ref p, .ref (c.cls y)] H Q :=
  z_isi (ClsV.own _) (TyX.base (TyOf.ins h ok.cl ok.ha ok.hn ok.htk ok.hm)) (ok.sub y i.has) k
end
theorem na_of {P : Str → Prop} {gs : List Str} (h : ∀ f ∈ gs, P f) : ∀ f, gs.contains f = true → P f := fun f hf => h f (by simpa using hf)
theorem ki_of {K : PySem.W.Frag} {C : Addr} (h : ∀ n ∈ ["int", "bool", "str", "NoneType", "tuple", "list", "dict"], PySem.W.kitOne K (.type n) (.ref C) = some false) : ∀ n, ["int", "bool", "str", "NoneType", "tuple", "list", "dict"].contains n = true → PySem.W.kitOne K (.type n) (.ref C) = some false := fun n hn => h n (by simpa using hn)
theorem si_of {K : PySem.W.Frag} {C : Addr} (h : ∀ n ∈ ["int", "bool", "str", "NoneType", "tuple", "list", "dict"], PySem.W.subIn K (.type n) (.ref C) = some false) : ∀ n, ["int", "bool", "str", "NoneType", "tuple", "list", "dict"].contains n = true → PySem.W.subIn K (.type n) (.ref C) = some false := fun n hn => h n (by simpa using hn)
theorem kit_own {K : PySem.W.Frag} {t : Value} {C : Addr} {b : Bool} (ic : PySem.W.isClsIn K C = true) (ty : PySem.W.typeIn K (.ref C) = some (.type "type")) (ss : PySem.W.subIn K (.ref C) (.ref C) = some true) (sb : PySem.W.subIn K t (.ref C) = some b) : PySem.W.kitOne K t (.ref C) = some b := by
  unfold PySem.W.kitOne
  split
  · rename_i h
    have e : t = .ref C := eq_of_beq h
    subst e
    rw [ss] at sb; exact sb
  · unfold PySem.W.kitCls
    have h1 : (PySem.W.clsIn K C).isSome = true := ic
    dsimp only
    rw [h1, ty]
    exact sb

local macro_rules | `(tactic| walk_at "z") => `(tactic| with_reducible first
  | ((show zFld _ _ _ _ _); refine z_fld (by assumption) (by walk_at "lk") (by with_unfolding_all rfl) (by with_unfolding_all rfl) ?_)
  | ((show zSet _ _ _ _ _ _); refine z_set (by assumption) (by walk_at "lk") (by with_unfolding_all rfl) (by with_unfolding_all exact of_decide_eq_true rfl) ?_)
  | (refine z_mk ?_) | (refine z_mt ?_) | (refine z_pr ?_) | (refine z_clsv ?_; intro _))

/-! ### the draws of a law -/
-- _law_row(_law_script, _law_k): slots 0:_law_script 1:_law_k 2:_law_cell 3:_law_a 4:_law_b 5:_law_c
def T_law_row (K : PySem.W.Frag) : TS :=
    (tSeq (tAsg (tC (.int 0)) (gName 2))
    (tCut (tIfS (tTest (tOp (uLt K) (tVar 1) (tCB (uLen K) (tCons (tVar 0) tNil)))) (tAsg (tOp (uIx K) (tVar 0) (tVar 1)) (gName 2)) tNext)
    (tCut (tIfS (tTest (tOp (uLt K) (tVar 2) (tC (.int 0)))) (tAsg (tOp uSub (tOp uMul (tUn uNeg (tC (.int 2))) (tVar 2)) (tC (.int 1))) (gName 2)) tNext)
    (tCut (tIfS (tTest (tOp (uLt K) (tVar 2) (tOp uPow (tC (.int 10)) (tC (.int 9))))) (tSeq (tAsg (tOp uMod (tCB uInt (tCons (tOp (uAdd K) (tOp (uAdd K) (tOp uMul (tVar 2) (tC (.int 48271))) (tOp uMul (tVar 1) (tC (.int 69621)))) (tC (.int 11))) tNil)) (tC (.int 2147483647))) (gName 3))
    (tSeq (tAsg (tOp uMod (tCB uInt (tCons (tOp (uAdd K) (tOp (uAdd K) (tOp (uAdd K) (tOp uMul (tVar 3) (tC (.int 16807))) (tOp uMul (tVar 2) (tC (.int 7)))) (tVar 1)) (tC (.int 5))) tNil)) (tC (.int 2147483629))) (gName 4))
    (tSeq (tAsg (tOp uMod (tCB uInt (tCons (tOp (uAdd K) (tOp (uAdd K) (tOp uMul (tVar 4) (tC (.int 39373))) (tOp uMul (tVar 3) (tVar 4))) (tC (.int 3))) tNil)) (tC (.int 2147483587))) (gName 5))
    (tAsg (tOp (uAdd K) (tOp (uAdd K) (tVar 3) (tOp uMul (tVar 4) (tC (.int 2147483647)))) (tOp uMul (tVar 5) (tOp uPow (tC (.int 2147483647)) (tC (.int 2))))) (gName 2))))) tNext)
    (tRet (tVar 2))))))
def sp_law_row (K : PySem.W.Frag) : Sp := fun vs H Q _ => ∃ (L : Addr) (ns : List Int) (k : Int), vs = [.ref L, .int k] ∧ SqL K H L (ns.map V.int) ∧ 0 ≤ k ∧ ∀ c : Int, 0 ≤ c → Q (.int c) H
theorem r_law_row {K : PySem.W.Frag} {L : Addr} {ns : List Int} {k : Int} {H : Hp} {D : Ends} (hL : SqL K H L (ns.map V.int)) (hk : 0 ≤ k) (q : ∀ c : Int, 0 ≤ c → D.rt (.int c) H) :
    T_law_row K D [some (.ref L), some (.int k), none, none, none, none] H := by
  unfold T_law_row
  walk_at "zz"
  refine z_cut (fun σ H' => H = H' ∧ ∃ c : Int, σ = [some (.ref L), some (.int k), some (.int c), none, none, none]) ?_ ?_
  · walk_at "zz"
    refine z_itD (fun c => ?_) (fun c => ?_)
    · walk_at "zz"
      refine z_ix (.inl hL) (at_int hk (by simpa using c)) ?_
      walk_at "zz"
      exact ⟨rfl, _, rfl⟩
    · walk_at "zz"
      exact ⟨rfl, _, rfl⟩
  rintro σ H' ⟨rfl, c, rfl⟩
  refine z_cut (fun σ H' => H = H' ∧ ∃ c : Int, 0 ≤ c ∧ σ = [some (.ref L), some (.int k), some (.int c), none, none, none]) ?_ ?_
  · walk_at "zz"
    refine z_itD (fun c => ?_) (fun c => ?_)
    · walk_at "zz"
      exact ⟨rfl, _, by omega, rfl⟩
    · walk_at "zz"
      exact ⟨rfl, _, by omega, rfl⟩
  rintro σ H' ⟨rfl, c, hc, rfl⟩
  refine z_cut (fun σ H' => H = H' ∧ ∃ (c : Int) (x y z : Option V), 0 ≤ c ∧ σ = [some (.ref L), some (.int k), some (.int c), x, y, z]) ?_ ?_
  · walk_at "zz"
    refine z_itD (fun h => ?_) (fun h => ?_)
    · walk_at "zz"
      refine ⟨rfl, _, _, _, _, ?_, rfl⟩
      omega
    · walk_at "zz"
      exact ⟨rfl, _, _, _, _, hc, rfl⟩
  rintro σ H' ⟨rfl, c, x, y, z, hc, rfl⟩
  walk_at "zz"
  exact q c hc
-- _law_next(_law_state, _law_many): slots 0:_law_state 1:_law_many 2:_law_drawn
def T_law_next (K : PySem.W.Frag) : TS :=
    (tCut (tIfS (tTest (tOp (uLt K) (tOp (uIx K) (tVar 0) (tC (.int 2))) (tVar 1))) (tSeq (tAsg (tCal (sp_law_row K) (tCons (tOp (uIx K) (tVar 0) (tC (.int 0))) (tCons (tOp (uIx K) (tVar 0) (tC (.int 1))) tNil))) (gSub (tVar 0) (tC (.int 2)) rSetL))
    (tAsg (tOp (uAdd K) (tOp (uIx K) (tVar 0) (tC (.int 1))) (tC (.int 1))) (gSub (tVar 0) (tC (.int 1)) rSetL))) tNext)
    (tSeq (tAsg (tOp uMod (tCB uInt (tCons (tOp (uIx K) (tVar 0) (tC (.int 2))) tNil)) (tVar 1)) (gName 2))
    (tSeq (tAsg (tOp uDiv (tOp (uIx K) (tVar 0) (tC (.int 2))) (tVar 1)) (gSub (tVar 0) (tC (.int 2)) rSetL))
    (tRet (tVar 2)))))
/-- the state of the draws stands at st, the script's copy at L -/
structure Draw (H : Hp) (st L : Addr) : Prop where
  ex : ∃ (ns : List Int) (k a : Int), H st = some (.lst [.ref L, .int k, .int a]) ∧ H L = some (.lst (ns.map V.int)) ∧ L ≠ st ∧ 0 ≤ k ∧ 0 ≤ a
theorem Draw.ne {H : Hp} {st L p : Addr} (h : H p = none) (d : Draw H st L) : p ≠ st := by
  obtain ⟨_, _, _, e, _⟩ := d.ex
  exact (ne_of_none e h).symm
theorem Draw.neL {H : Hp} {st L p : Addr} (h : H p = none) (d : Draw H st L) : p ≠ L := by
  obtain ⟨_, _, _, _, e, _⟩ := d.ex
  exact (ne_of_none e h).symm
theorem Draw.new {H : Hp} {st L p : Addr} {o : HO} (h : H p = none) (d : Draw H st L) : Draw (upd H p o) st L := by
  obtain ⟨ns, k, a, e, s, n, hk, ha⟩ := d.ex
  exact ⟨ns, k, a, lk_ne (ne_of_none e h) e, lk_ne (ne_of_none s h) s, n, hk, ha⟩
theorem Draw.same {H H' : Hp} {st L : Addr} (x : Same H H') (d : Draw H st L) : Draw H' st L := by
  obtain ⟨ns, k, a, e, s, n, hk, ha⟩ := d.ex
  exact ⟨ns, k, a, x _ _ e, x _ _ s, n, hk, ha⟩
theorem Draw.put {H : Hp} {st L p : Addr} {o : HO} (h1 : p ≠ st) (h2 : p ≠ L) (d : Draw H st L) : Draw (upd H p o) st L := by
  obtain ⟨ns, k, a, e, s, n, hk, ha⟩ := d.ex
  exact ⟨ns, k, a, lk_ne h1.symm e, lk_ne h2.symm s, n, hk, ha⟩
theorem Draw.back {H H' : Hp} {st L p : Addr} (d : Draw H' st L) (x : ExD H H') (h : H' p = none) (hs : ∀ L k a, H p = some (.lst [.ref L, .int k, .int a]) → p = st) : H p = none := by
  cases e : H p with
  | none => rfl
  | some o =>
    by_cases n : NotSt o
    · have := x p o n e
      rw [h] at this; cases this
    · exfalso
      apply n
      rintro L k a rfl
      exact Draw.ne h d (hs L k a e)
def sp_law_next (K : PySem.W.Frag) : Sp := fun vs H Q _ => ∃ (st L : Addr) (m : Int), vs = [.ref st, .int m] ∧ Draw H st L ∧ 0 < m ∧ m < 1000000000000000000 ∧ ∀ (r : Int) (H' : Hp), 0 ≤ r → r < m → Draw H' st L → ExD H H' → (∀ a, a ≠ st → H' a = H a) → Q (.int r) H'
theorem law_row_c {K : PySem.W.Frag} {L : Addr} {k : Int} {H : Hp} {Q : VK} {E : XK} {ns : List Int} (hL : SqL K H L (ns.map V.int)) (hk : 0 ≤ k) (q : ∀ c : Int, 0 ≤ c → Q (.int c) H) : sp_law_row K [.ref L, .int k] H Q E := ⟨L, ns, k, rfl, hL, hk, q⟩
theorem r_law_next {K : PySem.W.Frag} {st L : Addr} {m : Int} {H : Hp} {D : Ends} (d : Draw H st L) (h0 : 0 < m) (h1 : m < 1000000000000000000) (q : ∀ (r : Int) (H' : Hp), 0 ≤ r → r < m → Draw H' st L → ExD H H' → (∀ a, a ≠ st → H' a = H a) → D.rt (.int r) H') :
    T_law_next K D [some (.ref st), some (.int m), none] H := by
  obtain ⟨ns, k, a, e, sL, n, hk, ha⟩ := d.ex
  have s : SqL K H L (ns.map V.int) := SqL.of sL
  unfold T_law_next
  refine z_cut (fun σ H' => ∃ k a : Int, H' = upd H st (.lst [.ref L, .int k, .int a]) ∧ 0 ≤ k ∧ 0 ≤ a ∧ σ = [some (.ref st), some (.int m), none]) ?_ ?_
  · walk_at "zz"
    refine z_itD (fun h => ?_) (fun h => ?_)
    · walk_at "zz"
      refine law_row_c s hk fun c hc => ?_
      walk_at "zz"
      refine ⟨k + 1, c, ?_, by omega, hc, rfl⟩
      simp only [upd_upd]; rfl
    · walk_at "zz"
      exact ⟨k, a, (upd_self e).symm, hk, ha, rfl⟩
  rintro σ H' ⟨k, a, rfl, hk, ha, rfl⟩
  walk_at "zz"
  refine q _ _ (Int.emod_nonneg _ (by omega)) (Int.emod_lt_of_pos _ h0) ⟨ns, k, a / m, upd_same, ?_, n, hk, Int.ediv_nonneg ha (by omega)⟩ ?_ ?_
  · exact lk_ne n (lk_ne n sL)
  · exact ExD.st e (ExD.st e (ExD.refl H))
  · intro b hb; rw [upd_ne hb, upd_ne hb]
theorem law_next_c {K : PySem.W.Frag} {st L : Addr} {m : Int} {H : Hp} {Q : VK} {E : XK} (d : Draw H st L) (h0 : 0 < m) (h1 : m < 1000000000000000000) (q : ∀ (r : Int) (H' : Hp), 0 ≤ r → r < m → Draw H' st L → ExD H H' → Q (.int r) H') : sp_law_next K [.ref st, .int m] H Q E :=
  ⟨st, L, m, rfl, d, h0, h1, fun r H' a b c e _ => q r H' a b c e⟩
-- _law_is_integer(_law_actual): slots 0:_law_actual
def T_law_is_integer (K : PySem.W.Frag) : TS :=
    (tRet (tAndV (tCB (uIsi K) (tCons (tVar 0) (tCons (tC (.ty "int")) tNil))) (tNotV (tCB (uIsi K) (tCons (tVar 0) (tCons (tC (.ty "bool")) tNil))))))
def sp_law_is_integer (K : PySem.W.Frag) : Sp := fun vs H Q _ => ∃ i : Int, vs = [.int i] ∧ Q (.bl true) H
theorem r_law_is_integer {K : PySem.W.Frag} {i : Int} {H : Hp} {D : Ends} (q : D.rt (.bl true) H) : T_law_is_integer K D [some (.int i)] H := by
  unfold T_law_is_integer
  walk_at "zz"
  exact q
theorem Draw.start {H : Hp} {l p : Addr} {ns : List Int} (h1 : H l = none) (h2 : upd H l (.lst (ns.map V.int)) p = none) : Draw (upd (upd H l (.lst (ns.map V.int))) p (.lst [.ref l, .int 0, .int 0])) p l := by
  have ne : l ≠ p := ne_of_none (H := upd H l (.lst (ns.map V.int))) upd_same h2
  exact ⟨ns, 0, 0, upd_same, lk_ne ne upd_same, ne, by decide, by decide⟩
def sp_law (K : PySem.W.Frag) : Sp := fun vs H Q _ => ∃ (a : Addr) (ns : List Int), vs = [.ref a] ∧ SqL K H a (ns.map V.int) ∧ ns.length ≤ 63 ∧ ∀ H', Q (.bl true) H'
abbrev N_law_row : List Str := ["_law_script", "_law_k", "_law_cell", "_law_a", "_law_b", "_law_c"]
theorem w_law_row {K : PySem.W.Frag} : Wd (T_law_row K) N_law_row 2 (sp_law_row K) := fun vs H Q E h => by
  obtain ⟨L, ns, k, rfl, h1, h2, q⟩ := h
  exact ⟨rfl, r_law_row h1 h2 q⟩
abbrev N_law_next : List Str := ["_law_state", "_law_many", "_law_drawn"]
theorem w_law_next {K : PySem.W.Frag} : Wd (T_law_next K) N_law_next 2 (sp_law_next K) := fun vs H Q E h => by
  obtain ⟨st, L, m, rfl, d, h0, h1, q⟩ := h
  exact ⟨rfl, r_law_next d h0 h1 q⟩
abbrev N_law_is_integer : List Str := ["_law_actual"]
theorem w_law_is_integer {K : PySem.W.Frag} : Wd (T_law_is_integer K) N_law_is_integer 1 (sp_law_is_integer K) := fun vs H Q E h => by
  obtain ⟨i, rfl, q⟩ := h
  exact ⟨rfl, r_law_is_integer q⟩

local macro_rules | `(tactic| walk_at "dr") => `(tactic| with_reducible first | assumption | ((show Draw (upd _ _ _) _ _); first | exact Draw.new (by assumption) (by walk_at "dr") | exact Draw.put (by walk_at "ne") (by walk_at "ne") (by walk_at "dr")) | exact Draw.same (by assumption) (by walk_at "dr"))
local macro_rules | `(tactic| walk_at "nx") => `(tactic| (refine law_next_c (by walk_at "dr") (by first | decide | omega) (by first | decide | omega) ?_))

/-! ### lists place by place -/
inductive All2 {α β : Type} (R : α → β → Prop) : List α → List β → Prop
  | nil : All2 R [] []
  | cons {a : α} {b : β} {as : List α} {bs : List β} (h : R a b) (t : All2 R as bs) : All2 R (a :: as) (b :: bs)
section
variable {α β : Type} {R S : α → β → Prop} {as : List α} {bs : List β} {a : α} {b : β}
theorem All2.imp (f : ∀ a b, R a b → S a b) (h : All2 R as bs) : All2 S as bs := by
  induction h with
  | nil => exact .nil
  | cons h t ih => exact .cons (f _ _ h) ih
theorem All2.app (h : All2 R as bs) (e : R a b) : All2 R (as ++ [a]) (bs ++ [b]) := by
  induction h with
  | nil => exact .cons e .nil
  | cons h t ih => exact .cons h ih
theorem All2.len (h : All2 R as bs) : as.length = bs.length := by
  induction h with
  | nil => rfl
  | cons h t ih => simp [ih]
theorem All2.get (h : All2 R as bs) : ∀ {i : Nat} (hi : i < as.length) (hj : i < bs.length), R as[i] bs[i] := by
  induction h with
  | nil => intro i hi; cases hi
  | cons h t ih => intro i hi hj; cases i with
    | zero => exact h
    | succ i => exact ih (by simpa using hi) (by simpa using hj)
theorem All2.of {n : Nat} (ha : as.length = n) (hb : bs.length = n) (f : ∀ i (hi : i < as.length) (hj : i < bs.length), R as[i] bs[i]) : All2 R as bs := by
  induction as generalizing bs n with
  | nil => cases bs with
    | nil => exact .nil
    | cons b t => simp at ha hb; omega
  | cons a t ih => cases bs with
    | nil => simp at ha hb; omega
    | cons b u => exact .cons (f 0 (by simp) (by simp)) (ih (n := n - 1) (by simp at ha; omega) (by simp at hb; omega) fun i hi hj => f (i + 1) (by simpa using hi) (by simpa using hj))
end
theorem at_ref {ps : List Addr} {i : Int} (h0 : 0 ≤ i) (h1 : i < ps.length) : atI (ps.map V.ref) i = some (.ref (ps.getD i.toNat 0)) := by
  unfold atI
  rw [ix_at h0 (by simpa using h1)]
  have : i.toNat < ps.length := by omega
  simp [List.getD, this]
theorem map_ref {ps : List Addr} {i : Nat} {x : V} (h : (ps.map V.ref)[i]? = some x) : i < ps.length ∧ x = .ref (ps.getD i 0) := by
  rw [List.getElem?_map] at h
  cases e : ps[i]? with
  | none => rw [e] at h; cases h
  | some y =>
    rw [e] at h
    obtain ⟨l, _⟩ := List.getElem?_eq_some_iff.mp e
    exact ⟨l, by rw [List.getD_eq_getElem?_getD, e]; exact (Option.some.inj h).symm⟩
theorem ref_app {ps : List Addr} {q : Addr} : ps.map V.ref ++ [V.ref q] = (ps ++ [q]).map V.ref := by simp
section
variable {α β : Type} {R : α → β → Prop} {as : List α} {bs : List β} {a : α} {b : β}
theorem All2.atD (h : All2 R as bs) (d : α) (e : β) {i : Nat} (hi : i < bs.length) : R (as.getD i d) (bs.getD i e) := by
  have hj : i < as.length := by rw [All2.len h]; exact hi
  have q := All2.get h hj hi
  rw [List.getD_eq_getElem?_getD, List.getD_eq_getElem?_getD, List.getElem?_eq_getElem hi, List.getElem?_eq_getElem hj]
  exact q
theorem All2.take (h : All2 R as bs) : ∀ k : Nat, All2 R (as.take k) (bs.take k) := by
  induction h with
  | nil => intro k; rw [List.take_nil, List.take_nil]; exact .nil
  | cons h t ih => intro k; cases k with
    | zero => exact .nil
    | succ k => exact .cons h (ih k)
theorem All2.drop (h : All2 R as bs) : ∀ k : Nat, All2 R (as.drop k) (bs.drop k) := by
  induction h with
  | nil => intro k; rw [List.drop_nil, List.drop_nil]; exact .nil
  | cons h t ih => intro k; cases k with
    | zero => exact .cons h t
    | succ k => exact ih k
theorem All2.mem (h : All2 R as bs) (ha : a ∈ as) : ∃ b ∈ bs, R a b := by
  induction h with
  | nil => cases ha
  | cons h t ih =>
    rcases List.mem_cons.mp ha with rfl | ha
    · exact ⟨_, List.mem_cons_self .., h⟩
    · obtain ⟨b, hb, r⟩ := ih ha; exact ⟨b, List.mem_cons_of_mem _ hb, r⟩
end
theorem Same.put {H H' : Hp} {p : Addr} {o : HO} (h : H p = none) (x : Same H H') : Same H (upd H' p o) := fun a u e => lk_ne (ne_of_none e h) (x a u e)
theorem fresh_same {H H' : Hp} {p : Addr} (s : Same H H') (h : H' p = none) : H p = none := by
  cases e : H p with
  | none => rfl
  | some o => rw [s _ _ e] at h; cases h
theorem take_dS {α : Type} {l : List α} {i : Nat} (d : α) (h : i < l.length) : l.take (i + 1) = l.take i ++ [l.getD i d] := by
  rw [List.take_succ, List.getD_eq_getElem?_getD, List.getElem?_eq_getElem h]; rfl
theorem getD_mem' {α : Type} {l : List α} {i : Nat} (d : α) (h : i < l.length) : l.getD i d ∈ l := by
  rw [List.getD_eq_getElem?_getD, List.getElem?_eq_getElem h]; exact List.getElem_mem h

/-! enumerate over a list or a tuple -/
section
open PySem.AutoSeq1 (wpAny_loadPart')
abbrev itT (l : Addr) : Obj := { cls := .type "tuple_iterator", data := .fields #[.ref l, .int 0 0] }
abbrev enT (h : Heap) : Obj := { cls := .type "enumerate", data := .fields #[.none, .bool false, .ref h.objs.size, rawInt 0, .none, .none] }
theorem new_enumT (l : Addr) (us : Array Value) (n : Nat) (dd : Option Addr) (ss : Array (Option Value)) :
    Meets (Builtin.«enumerate.__new__» ⟨[.type "enumerate", .ref l], []⟩) (fun _ R s => s.heap.get? l = some { cls := .type "tuple", dict := dd, data := .seq us n, slots := ss } ∧
      R (.ok (.ret (.ref (s.heap.push (itT l)).objs.size))) { s with heap := (s.heap.push (itT l)).push (enT s.heap) }) :=
  .of_wp fun prog w A R s h => by
    obtain ⟨hp, gg, dr, tk, os⟩ := s
    obtain ⟨hl, q⟩ := h
    have se := sub_enumerate
    have isT : Heap.IsTuple (Shared.heap ⟨hp, gg, dr, tk, os⟩) l us := ⟨_, hl, rfl, n, rfl⟩
    wp_walk using wpAny_loadPart' hl
    refine wpAny_stack_any fun st => wpAny_pure ?_
    split
    · rename_i cc _ _ _ _ _
      cases (cc == Value.type "enumerate") <;> (wp_walk using wpAny_loadPart' hl, wpAny_pyIter_tuple isT; exact ⟨_, rfl, q⟩)
    · wp_walk using wpAny_loadPart' hl, wpAny_pyIter_tuple isT
      exact ⟨_, rfl, q⟩
theorem call_enumT {prog : Program} {w : World} {A : Around} {E : Value → Shared → Prop} {s : Shared} {l : Addr} {us : Array Value} {Q : Value → Shared → Prop} (hT : s.heap.IsTuple l us)
    (h : ∀ h', IsEnum h' (s.heap.objs.size + 1) s.heap.objs.size 0 .none → h'.IsTupleIter s.heap.objs.size l 0 → (∀ b o, s.heap.get? b = some o → h'.get? b = some o) → Q (.ref (s.heap.objs.size + 1)) { s with heap := h' }) :
    wpAny (model prog w) A (call (.type "enumerate") [.ref l]) Q E s := by
  obtain ⟨⟨cc, dd, dt, ss⟩, hl, h1, n, h2⟩ := hT
  simp only at h1 h2
  subst h1 h2
  have zz : (s.heap.push (itT l)).objs.size = s.heap.objs.size + 1 := Heap.size_push ..
  have en : IsEnum ((s.heap.push (itT l)).push (enT s.heap)) (s.heap.objs.size + 1) s.heap.objs.size 0 .none := by
    have g := Heap.get?_push_size (s.heap.push (itT l)) (o := enT s.heap) rfl
    rw [zz] at g; exact g
  refine callType_new F.called_enumerate (by decide) (F.typeCall_enumerate_1 _) (F.newCall_enumerate_1 _) (fun obj => F.args_object_init_2 obj _) F.entry_enumerate_new (new_enumT l us n dd ss) ⟨hl, ?_⟩
  show _ ∧ _
  rw [zz]
  exact ⟨⟨_, en, rfl⟩, h _ en ⟨_, Heap.get?_push_of_some _ (Heap.get?_push_size _ rfl), rfl, rfl⟩ fun b o x => Heap.get?_push_of_some _ (Heap.get?_push_of_some _ x)⟩
end
/-- the tuple at a as it stands at each turn, place and item in a new pair -/
def IteT (K : PySem.W.Frag) (a : Addr) : It :=
  ⟨fun i H => ∃ (xs : List V) (x : V), SqT K H a xs ∧ xs[i]? = some x, fun i H v H' => ∃ T x, v = .ref T ∧ H T = none ∧ H' = upd H T (.tup [.int (i : Nat), x]) ∧ ∀ xs, SqT K H a xs → xs[i]? = some x, fun i H => ∃ xs : List V, SqT K H a xs ∧ xs.length ≤ i⟩
theorem turn_enumT {P : Program} {w : World} {K : PySem.W.Frag} {elts : List Expr} {kk : Nat} {tpos : Pos} (a e it : Addr) :
    Turn P w K (.Tuple elts kk tpos) (IteT K a) [e, it] e (fun i h => (∃ old, IsEnum h e it ((i : Nat) : Int) old) ∧ h.IsTupleIter it a i ∧ e ≠ it) where
  mem := by simp
  obj := fun i h st b hb => by
    obtain ⟨⟨old, en⟩, ⟨o, ho, _, dt⟩, _⟩ := st
    rcases (show b = e ∨ b = it by simpa using hb) with z | z
    · rw [z]; exact ⟨_, en, fun v q => nomatch q⟩
    · rw [z]; exact ⟨o, ho, fun v q => by rw [dt] at q; cases q⟩
  keep := fun i h h' st k => let ⟨⟨old, en⟩, ⟨o, ho, hi⟩, ne⟩ := st; ⟨⟨old, k e (by simp) _ en⟩, ⟨o, k it (by simp) _ ho, hi⟩, ne⟩
  item := by
    intro X hP hw hK hc i pins s σ H E I hf st hg
    subst hP hw hK
    obtain ⟨⟨old, en⟩, hit, ne⟩ := st
    obtain ⟨xs, x, hq, hx⟩ := hg
    obtain ⟨us, rv, p, _⟩ := I.tuple hq
    obtain ⟨u, hu, ru⟩ := rv.get hx
    have p2 : s.heap.IsTuple a us.toArray := p
    have lt1 : e < s.heap.objs.size := Heap.lt_size en
    have lt2 : it < s.heap.objs.size := by obtain ⟨_, q, _⟩ := hit; exact Heap.lt_size q
    have ne2 : a ≠ it := fun z => by
      obtain ⟨o1, g1, c1, _⟩ := hit
      obtain ⟨o2, g2, c2, _⟩ := id p2
      rw [z, g1] at g2; cases g2; rw [c1] at c2; exact absurd c2 (by decide)
    have ne3 : e ≠ a := fun z => by
      obtain ⟨o2, g2, c2, _⟩ := id p2
      rw [← z, show s.heap.get? e = _ from en] at g2; cases g2; exact absurd (show Value.type "enumerate" = Value.type "tuple" from c2) (by decide)
    have hlt : i < us.toArray.size := by
      obtain ⟨l, _⟩ := List.getElem?_eq_some_iff.mp hu
      simpa using l
    refine wpAny_pyNext_enum_itemD (Draws.tuple (A := X.A.in1) (I.ok.hd hc) it a ne2 us.toArray) en ⟨hit, p2⟩ hlt ne (by simp [ne, ne3]) fun y h' tk hy out st2 hT _ hk => ?_
    have ey : y = u := by
      have z : us.toArray[i]? = some y := hy
      rw [show us.toArray[i]? = us[i]? by simp] at z
      rw [hu] at z; exact (Option.some.inj z).symm
    subst ey
    refine ⟨_, rfl, wpAny_letOwnedTupleGo_enum (s := { s with heap := h', toks := tk + 1 }) out fun h'' en2 sb => ?_⟩
    have hT2 : h''.get? s.heap.objs.size = some { cls := .type "tuple", data := .seq #[.int i tk, y] } := (sb.2 _ (Nat.ne_of_gt lt1)).trans hT
    have nw : ObjOk X.prog X.w (upd H s.heap.objs.size (.tup [.int (i : Nat), x])) h'' s.heap.objs.size (.tup [.int (i : Nat), x]) :=
      ⟨by show 2 ≤ sizeLine; decide, [.int i tk, y], .cons ⟨_, rfl⟩ (.cons ru .nil), ⟨_, hT2, rfl, _, rfl⟩⟩
    have J : Inv X pins σ (upd H s.heap.objs.size (.tup [.int (i : Nat), x])) { s with heap := h'', toks := tk + 1 } :=
      I.turnedNew (ch := [e, it]) (fun b ob hb q => (sb.2 b (fun z => hb (by simp [z]))).trans (hk b ob (fun z => hb (by simp [z])) (fun z => hb (by simp [z])) q)) hf (Nat.le_refl _) nw
    have hit2 : h''.IsTupleIter it a (i + 1) := by
      obtain ⟨o, g, r⟩ := st2.1
      exact ⟨o, (sb.2 it (Ne.symm ne)).trans g, r⟩
    refine ⟨.ref s.heap.objs.size, _, J, rfl, ⟨_, x, rfl, I.hok.fresh (Nat.le_refl _), rfl, fun ys hy => by rw [I.tuple_inj hy hq]; exact hx⟩, ⟨⟨y, ?_⟩, hit2, ne⟩, fun b hb => ?_⟩
    · rw [show ((i + 1 : Nat) : Int) = (i : Int) + 1 by omega]; exact en2
    · have lt : b < s.heap.objs.size := by
        rcases (show b = e ∨ b = it by simpa using hb) with z | z
        · rw [z]; exact lt1
        · rw [z]; exact lt2
      rw [upd_ne (Nat.ne_of_lt lt)]
      exact (hf b hb).1
  done := by
    intro X hP hw hK hc i pins s σ H E I hf st hg
    subst hP hw hK
    obtain ⟨⟨old, en⟩, hit, ne⟩ := st
    obtain ⟨xs, hq, hx⟩ := hg
    obtain ⟨us, rv, p, _⟩ := I.tuple hq
    have p2 : s.heap.IsTuple a us.toArray := p
    have len := rv.length
    obtain ⟨f0, f1, f2, f3, f4, f5⟩ := hf it (by simp)
    have hT : s.TypeIs (.ref e) "enumerate" := ⟨_, en, rfl⟩
    unfold pyNext
    refine wpAny_bind (wpAny_attempt (wpAny_callSpecial?_slot (name := Str.ofString "__next__") hT F.slot_enumerate_next (wpAny_call_entry F.slot_enumerate_next hT F.entry_enumerate_next ?_ (F.args_enumerate_next_1 _))))
    show wpAny _ _ (field (.ref e) 2 >>= _) _ _ _
    refine wpAny_bind (wpAny_field en rfl (x := .ref it) rfl ?_)
    refine wpAny_bind (wpAny_nextOf_tuple_end (I.ok.hd hc) hit p2 (by simp; omega) fun h' x eb hx' => ?_)
    obtain ⟨o, ho, co⟩ := hx'
    refine wpAny_bind (wpAny_isInstance (T := "StopIteration") (b := true) ⟨o, ho, co⟩ isSubtype_stop ?_)
    exact wpAny_pure ⟨rfl, I.turned (t' := s.toks) (fun b o hb q => eb b o hb q) f0 f1 f3 f4 f5⟩
  self := fun A i s Q E st h => let ⟨⟨_, en⟩, _⟩ := st; wpAny_pyIter_enum en h
def iEnumA (K : PySem.W.Frag) (ta : TA) : TI := fun σ H R => ta σ H fun vs H1 => ∃ a xs, vs = [.ref a] ∧ ((SqL K H1 a xs ∧ R (Ite K a) H1) ∨ (SqT K H1 a xs ∧ R (IteT K a) H1))
theorem pi_enumA {X : Cx} {e : Expr} {ta : TA} {p pos tpos : Pos} {elts : List Expr} {kk : Nat} (hg : Gl X "enumerate") (hm : X.mg "enumerate" = none) (ha : PA X [e] ta) (hs : starEach [e] X.env = [(false, eval e X.env)] := by rfl) :
    PI X (.Tuple elts kk tpos) (.Call (.Name "enumerate" p) [e] [] pos) (iEnumA X.K ta) := by
  refine ⟨fun pins s σ H R I h => PyProof.Rows.Call_ (ld_blt I hg hm PyProof.Rows.boot_enumerate (PyProof.Rows.callWith_type1 (thn (ha.run pos pins s σ H _ I h) fun us s1 ⟨vs, H1, I1, r1, q1⟩ => ?_) hs rfl))⟩
  obtain ⟨a, xs, ex, q1⟩ := q1
  subst ex
  obtain ⟨u, eu, r⟩ := Vals.one r1
  subst eu
  cases r
  have fr : ∀ b, b ∈ [s1.heap.objs.size + 1, s1.heap.objs.size] → FpOk X pins H1 b := fun b hb => by
    have le : s1.heap.objs.size ≤ b := by
      rcases (show b = s1.heap.objs.size + 1 ∨ b = s1.heap.objs.size by simpa using hb) with z | z <;> omega
    exact I1.fpOk le (I1.hok.fresh le)
  rcases q1 with ⟨hq, q⟩ | ⟨hq, q⟩
  · obtain ⟨us, rv, p, _⟩ := I1.list hq
    refine call_enumerate_list p.isList fun h' en hit _ hk => wpAny_pyIter_enum en ?_
    exact ⟨s1.heap.objs.size + 1, [s1.heap.objs.size + 1, s1.heap.objs.size], _, _, H1, rfl, I1.kept (t' := s1.toks) hk, turn_enum a (s1.heap.objs.size + 1) s1.heap.objs.size, ⟨⟨.none, en⟩, hit, Nat.succ_ne_self _⟩, fr, q⟩
  · obtain ⟨us, rv, p, _⟩ := I1.tuple hq
    refine call_enumT (show s1.heap.IsTuple a us.toArray from p) fun h' en hit hk => wpAny_pyIter_enum en ?_
    exact ⟨s1.heap.objs.size + 1, [s1.heap.objs.size + 1, s1.heap.objs.size], _, _, H1, rfl, I1.kept (t' := s1.toks) hk, turn_enumT a (s1.heap.objs.size + 1) s1.heap.objs.size, ⟨⟨.none, en⟩, hit, Nat.succ_ne_self _⟩, fr, q⟩
/-! the steps -/
def zEnumA (K : PySem.W.Frag) (g : TG) (tb : TS) (D : Ends) (σ : L2.St) (vs : List V) (H1 : Hp) : Prop := ∃ a xs, vs = [.ref a] ∧ ((SqL K H1 a xs ∧ ∃ W : Nat → Nat → L2.St → Hp → Prop, (∃ m, W 0 m σ H1) ∧ ∀ i m σ H, W i m σ H →
  ((Ite K a).stop i H ∧ D.nx σ H) ∨ ((Ite K a).go i H ∧ ∃ N : L2.St → Hp → Prop, (∀ σ' H', N σ' H' → ∃ m', m' < m ∧ W (i + 1) m' σ' H') ∧ ∀ x H', (Ite K a).yld i H x H' → g x σ H' fun σ2 H2 => tb { D with nx := N, ct := N, bk := D.nx } σ2 H2)) ∨
  (SqT K H1 a xs ∧ ∃ W : Nat → Nat → L2.St → Hp → Prop, (∃ m, W 0 m σ H1) ∧ ∀ i m σ H, W i m σ H →
  ((IteT K a).stop i H ∧ D.nx σ H) ∨ ((IteT K a).go i H ∧ ∃ N : L2.St → Hp → Prop, (∀ σ' H', N σ' H' → ∃ m', m' < m ∧ W (i + 1) m' σ' H') ∧ ∀ x H', (IteT K a).yld i H x H' → g x σ H' fun σ2 H2 => tb { D with nx := N, ct := N, bk := D.nx } σ2 H2)))
section
variable {K : PySem.W.Frag} {σ : L2.St} {H : Hp} {D : Ends} {ta : TA} {g : TG} {tb : TS} {a : Addr} {xs : List V}
theorem z_forEA (k : ta σ H fun vs H1 => zEnumA K g tb D σ vs H1) : tFor (iEnumA K ta) g tb D σ H := k
theorem z_enumA {u v : Nat} (h : SqL K H a xs ∨ SqT K H a xs) (Pv : Nat → L2.St → Hp → Prop) (h0 : Pv 0 σ H) (hk : ∀ i σ' H', Pv i σ' H' → Same H H')
    (hs : ∀ i x p σ' H', xs[i]? = some x → Pv i σ' H' → H' p = none → tb { D with nx := Pv (i + 1), ct := Pv (i + 1), bk := D.nx } ((σ'.set u (some (.int (i : Nat)))).set v (some x)) (upd H' p (.tup [.int (i : Nat), x])))
    (hd : ∀ σ' H', Pv xs.length σ' H' → D.nx σ' H') : zEnumA K (gTup K 2 (gCons (gName u) (gCons (gName v) gNil))) tb D σ [.ref a] H := by
  refine ⟨a, xs, rfl, ?_⟩
  rcases h with h | h
  · refine .inl ⟨h, fun i m σ H => m = xs.length - i ∧ i ≤ xs.length ∧ Pv i σ H, ⟨_, rfl, Nat.zero_le _, h0⟩, ?_⟩
    rintro i m σ' H' ⟨rfl, hi, p⟩
    have q1 := Same.seq (hk i σ' H' p) h
    by_cases hlt : i < xs.length
    · refine .inr ⟨⟨xs, xs[i], q1, by simp [hlt]⟩, Pv (i + 1), fun σ2 H2 p' => ⟨_, by omega, rfl, by omega, p'⟩, ?_⟩
      rintro x H2 ⟨T, x1, rfl, hT, rfl, f1⟩
      exact ⟨T, [.int (i : Nat), x1], rfl, .inl (.inl upd_same), rfl, .int (i : Nat), [x1], rfl, x1, [], rfl, rfl, hs i x1 T σ' H' (f1 xs q1) p hT⟩
    · have e : i = xs.length := by omega
      subst e
      exact .inl ⟨⟨xs, q1, by omega⟩, hd σ' H' p⟩
  · refine .inr ⟨h, fun i m σ H => m = xs.length - i ∧ i ≤ xs.length ∧ Pv i σ H, ⟨_, rfl, Nat.zero_le _, h0⟩, ?_⟩
    rintro i m σ' H' ⟨rfl, hi, p⟩
    have q1 := Same.sqT (hk i σ' H' p) h
    by_cases hlt : i < xs.length
    · refine .inr ⟨⟨xs, xs[i], q1, by simp [hlt]⟩, Pv (i + 1), fun σ2 H2 p' => ⟨_, by omega, rfl, by omega, p'⟩, ?_⟩
      rintro x H2 ⟨T, x1, rfl, hT, rfl, f1⟩
      exact ⟨T, [.int (i : Nat), x1], rfl, .inl (.inl upd_same), rfl, .int (i : Nat), [x1], rfl, x1, [], rfl, rfl, hs i x1 T σ' H' (f1 xs q1) p hT⟩
    · have e : i = xs.length := by omega
      subst e
      exact .inl ⟨⟨xs, q1, by omega⟩, hd σ' H' p⟩
end

/-! len(set(xs)) of numbers that may repeat -/
/-- the different ones, in the order in which they come -/
def ddZ (acc : List Int) : List Int → List Int
  | [] => acc
  | x :: xs => ddZ (if acc.any (· == x) then acc else acc ++ [x]) xs
theorem ddZ_snoc (x : Int) : ∀ (xs acc : List Int), ddZ acc (xs ++ [x]) = if (ddZ acc xs).any (· == x) then ddZ acc xs else ddZ acc xs ++ [x]
  | [], acc => rfl
  | y :: ys, acc => ddZ_snoc x ys _
theorem firstMet_ddZ (ns : List Int) : ∀ i, i ≤ ns.length → PyProof.Rows.firstMet (fun i => ns.getD i 0) i = ddZ [] (ns.take i)
  | 0, _ => rfl
  | i + 1, h => by
    have e : ns.take (i + 1) = ns.take i ++ [ns.getD i 0] := by
      rw [List.take_succ, List.getD_eq_getElem?_getD, List.getElem?_eq_getElem (show i < ns.length by omega)]; rfl
    rw [PyProof.Rows.firstMet_succ, firstMet_ddZ ns i (by omega), e, ddZ_snoc]
    rfl
theorem ddZ_le : ∀ (xs acc : List Int), (ddZ acc xs).length ≤ acc.length + xs.length
  | [], acc => Nat.le_refl _
  | x :: xs, acc => by
    have := ddZ_le xs (if acc.any (· == x) then acc else acc ++ [x])
    show (ddZ _ xs).length ≤ _
    split at this <;> rename_i h
    · rw [if_pos h]; simp; omega
    · rw [if_neg h]; simp at this ⊢; omega
theorem ddZ_eq : ∀ (xs acc : List Int), (ddZ acc xs).length = acc.length + xs.length ↔ xs.Nodup ∧ ∀ x ∈ xs, x ∉ acc
  | [], acc => by simp [ddZ]
  | x :: xs, acc => by
    show (ddZ _ xs).length = _ ↔ _
    by_cases h : acc.any (· == x) = true
    · rw [if_pos h]
      have := ddZ_le xs acc
      have hx : x ∈ acc := by
        obtain ⟨y, hy, e⟩ := List.any_eq_true.mp h
        rw [← eq_of_beq e]; exact hy
      constructor
      · intro z; simp at z; omega
      · intro z; exact absurd hx (z.2 x (List.mem_cons_self ..))
    · rw [if_neg h]
      have ih := ddZ_eq xs (acc ++ [x])
      have hx : x ∉ acc := fun hx => h (List.any_eq_true.mpr ⟨x, hx, beq_self_eq_true x⟩)
      rw [show acc.length + (x :: xs).length = (acc ++ [x]).length + xs.length by simp; omega, ih, List.nodup_cons]
      constructor
      · rintro ⟨h1, h2⟩
        refine ⟨⟨fun m => ?_, h1⟩, fun y hy => ?_⟩
        · exact h2 x m (by simp)
        · rcases List.mem_cons.mp hy with rfl | hy
          · exact hx
          · exact fun m => h2 y hy (by simp [m])
      · rintro ⟨⟨h1, h2⟩, h3⟩
        refine ⟨h2, fun y hy m => ?_⟩
        rcases List.mem_append.mp m with m | m
        · exact h3 y (List.mem_cons_of_mem _ hy) m
        · rw [List.mem_singleton.mp m] at hy; exact h1 hy
def setN (ns : List Int) : Nat := (ddZ [] ns).length
theorem setN_le (ns : List Int) : setN ns ≤ ns.length := by have := ddZ_le ns []; simpa [setN] using this
theorem setN_eq (ns : List Int) : setN ns = ns.length ↔ ns.Nodup := by
  have := ddZ_eq ns []
  simp only [List.length_nil, Nat.zero_add, List.not_mem_nil, not_false_eq_true, implies_true, and_true] at this
  exact this
theorem setN_lt (ns : List Int) : setN ns < ns.length ↔ ¬ ns.Nodup := by
  have h1 := setN_le ns
  have h2 := setN_eq ns
  constructor
  · intro h z; rw [← h2] at z; omega
  · intro h
    rcases Nat.lt_or_ge (setN ns) ns.length with q | q
    · exact q
    · exact absurd (h2.mp (by omega)) h
def tLenSet (K : PySem.W.Frag) (ta : TE) : TE := fun σ H Q => ta σ H fun x H1 => ∃ (l : Addr) (ns : List Int), x = .ref l ∧ SqL K H1 l (ns.map V.int) ∧ ns.length ≤ 4000 ∧ Q (.int (setN ns : Nat)) H1
theorem z_lenSetE {X : Cx} {a : Expr} {ta : TE} {p p2 q pos : Pos} (hg : Gl X "len") (m_len : X.mg "len" = none) (hg2 : Gl X "set") (m_set : X.mg "set" = none) (ha : PE X a ta) (hc : X.calm = true := by rfl)
    (na : starEach [a] X.env = (false, eval a X.env) :: starEach [] X.env := by rfl) : PE X (.Call (.Name "len" p) [.Call (.Name "set" p2) [a] [] q] [] pos) (tLenSet X.K ta) := by
  refine ⟨fun pins s σ H Q I h => PyProof.Rows.Call_ (ld_blt I hg m_len boot_len (PyProof.Rows.callWith_builtin1 (PyProof.Rows.args_cons (PyProof.Rows.Call_ (ld_blt I hg2 m_set PyProof.Rows.boot_set (PyProof.Rows.callWith_type1 (PyProof.Rows.args_cons (thn (ha.run pins s σ H _ I h) fun v s1 ⟨x, H1, I1, r1, q1⟩ => PyProof.Rows.args_nil ?_) na) na rfl))) rfl) rfl rfl))⟩
  obtain ⟨l, ns, rfl, hq, hl, q1⟩ := q1
  cases r1
  obtain ⟨us, r, pl, _⟩ := I1.list hq
  have nn : us.toArray.size = ns.length := by rw [List.size_toArray, ← r.length, List.length_map]
  refine PySem.call_set_list (I1.ok.hd hc) pl.isList (by simpa using RZ.intsAre_vals r) (by rw [nn]; unfold scanBound; omega) fun h' tk hS hk => PyProof.Rows.args_nil ?_
  rw [nn, firstMet_ddZ ns ns.length (Nat.le_refl _), List.take_length] at hS
  obtain ⟨o, es, ep, t, ho, hex, hd, _, _, _, hf, hn⟩ := hS
  have lt : (ddZ [] ns).length ≤ 4000 := Nat.le_trans (setN_le ns) hl
  have J : Inv X pins σ H1 { s1 with heap := h', toks := tk } := I1.kept fun b o e => hk b o (Heap.lt_size e) e
  exact call_len_set ho hex hd hf (by rw [hn]; omega) ⟨.int (setN ns : Nat), H1, J.tok _, ⟨_, by rw [hn]; rfl⟩, q1⟩
theorem z_lenSet {K : PySem.W.Frag} {ta : TE} {σ : L2.St} {H : Hp} {Q : VK} (k : ta σ H fun x H1 => ∃ (l : Addr) (ns : List Int), x = .ref l ∧ SqL K H1 l (ns.map V.int) ∧ ns.length ≤ 4000 ∧ Q (.int (setN ns : Nat)) H1) : tLenSet K ta σ H Q := k

/-! what may be raised; keywords -/
/-- no way out -/
abbrev W0 : WX := fun _ _ _ _ => False
theorem passF {X : Cx} : ∀ σ, PassesAt (L2.CX X.prog X.w) X σ (WE W0 σ) := fun σ => passAt takes0 σ
theorem passW {X : Cx} {W : WX} (tk : Takes X W) : ∀ σ, PassesAt (L2.CX X.prog X.w) X σ (WE W σ) := fun σ => passAt tk σ
theorem pass00 {X : Cx} : ∀ σ, PassesAt CX0 X σ (WE W0 σ) := fun σ pins H s e s' I c => pass0 pins σ H s e s' I c
/-- a body that may raise keeps its promise -/
def WdX (T : WX → TS) (N : List Str) (n : Nat) (sp : Sp) : Prop := ∀ (vs : List V) (H : Hp) (Q : VK) (E : XK), sp vs H Q E → vs.length = n ∧ T (fun cls d _ H => E cls d H) { nx := fun _ H' => Q .non H', rt := Q } (start N vs) H
structure DfnX (P : Program) (w : World) (K : PySem.W.Frag) (mg : Str → Option Value) (base : Heap) (k : Nat) (x : Str) (ps : List Str) (sp : Sp) : Prop where
  ex : ∃ (f : Addr) (fd : FuncData), mg x = some (.ref f) ∧ PySem.W.keepIn K (.ref f) = true ∧ Binds K fd ps [] ∧ FnOk P w K mg base (L2.CX P w) k f fd ps sp
structure MkrX (P : Program) (w : World) (K : PySem.W.Frag) (mg : Str → Option Value) (base : Heap) (k : Nat) (C : Addr) (ps : List Str) (sp : Sp) : Prop where
  ex : ∃ (f : Addr) (fd : FuncData), Mk K C f ∧ Binds K fd ps [] ∧ FnOk P w K mg base (L2.CX P w) k f fd ps sp
structure MthX (P : Program) (w : World) (K : PySem.W.Frag) (mg : Str → Option Value) (base : Heap) (k : Nat) (C : Addr) (m : Str) (ps : List Str) (sp : Sp) : Prop where
  ex : ∃ (f : Addr) (fd : FuncData), Meth K C m f ∧ Binds K fd ps [] ∧ FnOk P w K mg base (L2.CX P w) k f fd ps sp
/-- a constant: a value, or the empty tuple -/
inductive Cst where
  | v (x : V)
  | e
def Cst.Is (K : PySem.W.Frag) : Cst → V → Prop
  | .v x, u => u = x
  | .e, u => ∃ T, u = .ref T ∧ ∀ H, SqT K H T []
/-- keyword-only values by places: true: given, false: lacking -/
def gSel (sel : List (Bool × Nat)) {α : Type} (vs mz zs : List α) : List α := vs ++ sel.filterMap fun z => if z.1 then zs[z.2]? else mz[z.2]?
theorem gSel_rel (sel : List (Bool × Nat)) {vs mz zs : List V} {us mv ws : List Value} (h1 : Vals vs us) (h2 : Vals mz mv) (h3 : Vals zs ws) : Vals (gSel sel vs mz zs) (gSel sel us mv ws) := by
  unfold gSel
  refine h1.append ?_
  have one : ∀ {xs : List V} {as : List Value} (i : Nat), Vals xs as → (xs[i]? = none ∧ as[i]? = none) ∨ ∃ x a, xs[i]? = some x ∧ as[i]? = some a ∧ RelV x a := by
    intro xs as i r
    cases e : xs[i]? with
    | none => exact .inl ⟨rfl, Vals.none_of r e⟩
    | some x => obtain ⟨a, ea, ra⟩ := Vals.get r e; exact .inr ⟨x, a, rfl, ea, ra⟩
  induction sel with
  | nil => exact .nil
  | cons z t ih =>
    obtain ⟨b, i⟩ := z
    cases b with
    | true =>
      rcases one i h3 with ⟨e1, e2⟩ | ⟨x, a, e1, e2, r⟩
      · simp only [List.filterMap_cons, if_pos, e1, e2]; exact ih
      · simp only [List.filterMap_cons, if_pos, e1, e2]; exact .cons r ih
    | false =>
      rcases one i h2 with ⟨e1, e2⟩ | ⟨x, a, e1, e2, r⟩
      · simp only [List.filterMap_cons, Bool.false_eq_true, if_false, e1, e2]; exact ih
      · simp only [List.filterMap_cons, Bool.false_eq_true, if_false, e1, e2]; exact .cons r ih
/-- making by n values and the keywords ks; ms: what is lacking -/
structure MkrK (CX : CXT) (P : Program) (w : World) (K : PySem.W.Frag) (mg : Str → Option Value) (base : Heap) (k : Nat) (C : Addr) (ps : List Str) (sp : Sp) (n : Nat) (ks : List Str) (ms : List Cst) (sel : List (Bool × Nat)) : Prop where
  ex : ∃ (f : Addr) (fd : FuncData) (g : List Value → List Value → List Value) (ds : List V), Mk K C f ∧ All2 (Cst.Is K) ms ds ∧ KBn K fd ps (n + 1) ks g (fun vs zs => gSel sel vs ds zs) ∧ FnOk P w K mg base CX k f fd ps sp
def tMkX (K : PySem.W.Frag) (c : CEnv) (x : Str) (gs : List Str) (sp : Sp) (W : WX) (t : TA) : TE := fun σ H Q => t σ H fun vs H1 => ClsOk K c x gs → ∀ p dx, H1 p = none → H1 dx = none → dx ≠ p →
  sp (.ref p :: vs) (upd (upd H1 dx (.own p)) p (.ins (c.cls x) dx [])) (fun v H2 => v = .non ∧ Q (.ref p) H2) (WE W σ)
def tMkK (K : PySem.W.Frag) (c : CEnv) (x : Str) (gs : List Str) (n m : Nat) (ms : List Cst) (sel : List (Bool × Nat)) (sp : Sp) (W : WX) (t tk : TA) : TE := fun σ H Q => t σ H fun vs H1 => tk σ H1 fun zs H2 => vs.length = n ∧ zs.length = m ∧ (ClsOk K c x gs → ∀ ds, All2 (Cst.Is K) ms ds → ∀ p dx, H2 p = none → H2 dx = none → dx ≠ p →
  sp (gSel sel (.ref p :: vs) ds zs) (upd (upd H2 dx (.own p)) p (.ins (c.cls x) dx [])) (fun v H3 => v = .non ∧ Q (.ref p) H3) (WE W σ))
def tMtX (c : CEnv) (x m : Str) (sp : Sp) (W : WX) (ta : TE) (t : TA) : TE := fun σ H Q => ta σ H fun v H1 => ∃ a dx fs, v = .ref a ∧ H1 a = some (.ins (c.cls x) dx fs) ∧ fs.lookup m = none ∧ t σ H1 fun vs H2 => sp (v :: vs) H2 Q (WE W σ)
/-! own exceptions -/
structure ExcF (K : PySem.W.Frag) (mg : Str → Option Value) (c : CEnv) (x : Str) : Prop where
  q : PySem.W.excIn K (c.cls x) [.type "ValueError", .type "Exception", .type "BaseException", .type "object"] "ValueError.__new__" = true
  mg : mg x = some (.ref (c.cls x))
  kp : PySem.W.keepIn K (.ref (c.cls x)) = true
  sb : PySem.W.subIn K (.ref (c.cls x)) (.type "BaseException") = some true
  ty : PySem.W.typeIn K (.ref (c.cls x)) = some (.type "type")
def sRaise (c : CEnv) (x : Str) (W : WX) : TS := fun _ σ H => W (.ref (c.cls x)) none σ H
def sTry (K : PySem.W.Frag) (c : CEnv) (x : Str) (ys : List Str) (tb : WX → TS) (ts : TS) (Wo : WX) : TS := fun D σ H =>
  (∀ y ∈ ys, PySem.W.exmOne K (.ref (c.cls y)) (.ref (c.cls x)) = some (SUB y x)) → tb (wOnly K (.ref (c.cls x)) (fun _ _ _ => ts) Wo D) D σ H
section
variable {X : Cx} {c : CEnv} {k n : Nat} {x m : Str} {ps gs : List Str} {sp : Sp} {W : WX} {p pos apos : Pos} {e o : Expr} {es : List Expr} {t tk : TA} {ta : TE}
theorem z_callX (D : DfnX X.prog X.w X.K X.mg X.base k x ps sp) (hx : ∀ σ, PassesAt (L2.CX X.prog X.w) X σ (WE W σ)) (hr : Room k X.A) (hg : Gl X x) (ha : PA X (e :: es) t) (hdb : (x == ("__debug__" : Str)) = false := by decide)
    (he : starEach (e :: es) X.env = (false, eval e X.env) :: starEach es X.env := by rfl) (hpl : (backTo pos (starEach es X.env)).any (·.1) = false := by rfl) : PE X (.Call (.Name x p) (e :: es) [] pos) (tCallS sp (WE W) t) := by
  obtain ⟨f, fd, hm, hk, hb, F⟩ := D.ex
  exact pe_callS F hr hg hm hk hb hx ha hdb he hpl
/-- a made instance: what __init__ raises is wished for at the slots as they stand -/
theorem run_mkS {CX : CXT} {C f : Addr} {fd : FuncData} {ks : List Str} {g : List Value → List Value → List Value} {gV : List V → List V → List V} {E : XK} {pins : List (Addr × Obj)} {σ : L2.St} {H : Hp} {s : Shared} {Q : VK} {us ws : List Value} {vs zs : List V}
    (M : Mk X.K C f) (F : FnOk X.prog X.w X.K X.mg X.base CX k f fd ps sp) (hr : Room (k + 1) X.A) (bind : ∀ s : Shared, X.K.In s.heap → BindsTo s fd ⟨Value.ref (s.heap.objs.size - 1) :: us, ks.zip ws⟩ (ps.zip (g (Value.ref (s.heap.objs.size - 1) :: us) ws)))
    (rel : ∀ q, Vals (gV (V.ref q :: vs) zs) (g (Value.ref q :: us) ws)) (hx : PassesAt CX X σ E) (I : Inv X pins σ H s)
    (h : ∀ q dx, H q = none → H dx = none → dx ≠ q → sp (gV (.ref q :: vs) zs) (upd (upd H dx (.own q)) q (.ins C dx [])) (fun v H2 => v = .non ∧ Q (.ref q) H2) E)
    (bind2 : ∀ (s2 : Shared) (q : Addr), X.K.In s2.heap → BindsTo s2 fd ⟨Value.ref q :: us, ks.zip ws⟩ (ps.zip (g (Value.ref q :: us) ws))) :
    wpAny (model X.prog X.w) X.A (call (.ref C) us (ks.zip ws)) (EP X pins σ Q) X.xe s := by
  have want := h (s.heap.objs.size + 1) s.heap.objs.size (I.hok.fresh (Nat.le_succ _)) (I.hok.fresh (Nat.le_refl _)) (Nat.ne_of_lt (Nat.lt_succ_self _))
  have J := Inv.made (C := C) I
  have go := F.run _ X.stack _ _ ⟨Value.ref (s.heap.objs.size + 1) :: us, ks.zip ws⟩ (g (Value.ref (s.heap.objs.size + 1) :: us) ws) _ _ E (hr.make C us (ks.zip ws)) (J.env0.make C us (ks.zip ws)) (bind2 _ _ J.kIn) (rel _) want
  refine wpAny_call (make_map (f := f) I.kIn M.makes M.init (beq_iff_eq.mp M.fn) (codeAny_mono go fun r s' hr' => ?_))
  match r, hr' with
  | .error e, hr' => exact hx pins _ _ e s' J hr'
  | .ok (.ret u), hr' =>
    obtain ⟨v, H', I3, rv, ev, q3⟩ := J.after hr'
    subst ev
    exact ⟨rv, ⟨V.ref (s.heap.objs.size + 1), H', I3, rfl, q3⟩⟩
  | .ok .next, hr' => exact hr'.elim
  | .ok .brk, hr' => exact hr'.elim
  | .ok .cont, hr' => exact hr'.elim
theorem z_makeX (CF : ClsF X.K X.mg c x gs) (M : MkrX X.prog X.w X.K X.mg X.base k (c.cls x) ps sp) (hx : ∀ σ, PassesAt (L2.CX X.prog X.w) X σ (WE W σ)) (hr : Room (k + 1) X.A) (hg : Gl X x) (ha : PA X (e :: es) t) (hdb : (x == ("__debug__" : Str)) = false := by decide)
    (he : starEach (e :: es) X.env = (false, eval e X.env) :: starEach es X.env := by rfl) (hpl : (backTo pos (starEach es X.env)).any (·.1) = false := by rfl) : PE X (.Call (.Name x p) (e :: es) [] pos) (tMkX X.K c x gs sp W t) := by
  obtain ⟨f, fd, hM, hb, F⟩ := M.ex
  refine ⟨fun pins s σ H Q I h => ?_⟩
  refine wpAny_Call_Name_kw (ld_glob I hg CF.mg ?_ hdb)
  refine PySem.W.callWith_K (h₀ := X.base) I.ok.mod.kin hM.kp (thn (ha.run pos pins s σ H _ I h) fun us s1 ⟨vs, H1, I1, r, q⟩ => ⟨I1.kIn, ?_⟩) he hpl
  have hl : ∀ a : Addr, (Value.ref a :: us).length = ps.length := fun a => by
    have w := F.len _ _ _ _ (q CF.ok (s1.heap.objs.size + 1) s1.heap.objs.size (I1.hok.fresh (Nat.le_succ _)) (I1.hok.fresh (Nat.le_refl _)) (Nat.ne_of_lt (Nat.lt_succ_self _)))
    have l := r.length
    simp only [List.length_cons] at w ⊢
    omega
  have b : ∀ (s2 : Shared) (a : Addr), X.K.In s2.heap → BindsTo s2 fd ⟨Value.ref a :: us, ([] : List Str).zip ([] : List Value)⟩ (ps.zip (Value.ref a :: us)) := fun s2 a ki => by
    have z := hb s2 (Value.ref a :: us) ki (by rw [List.append_nil]; exact hl a)
    rw [List.append_nil] at z
    exact z
  exact run_mkS (ks := []) (ws := []) (zs := []) (g := fun us _ => us) (gV := fun vs _ => vs) hM F hr (fun s2 ki => b s2 _ ki) (fun _ => .cons rfl r) (hx σ) I1 (q CF.ok) b
theorem z_makeK {CX : CXT} {ks : List Str} {kws : List Keyword} {ms : List Cst} {sel : List (Bool × Nat)} {nk : Nat} (CF : ClsF X.K X.mg c x gs) (M : MkrK CX X.prog X.w X.K X.mg X.base k (c.cls x) ps sp n ks ms sel) (hx : ∀ σ, PassesAt CX X σ (WE W σ)) (hr : Room (k + 1) X.A) (hg : Gl X x) (ha : PA X (e :: es) t) (hkw : PK X kws tk)
    (hnk : ks.length = nk := by rfl) (hall : (backToKw pos (keywordEach kws X.env)).all (·.1.isSome) = true := by rfl) (hks : (backToKw pos (keywordEach kws X.env)).filterMap (·.1) = ks := by rfl) (hdb : (x == ("__debug__" : Str)) = false := by decide)
    (he : starEach (e :: es) X.env = (false, eval e X.env) :: starEach es X.env := by rfl) (hpl : ((backTo pos (starEach (e :: es) X.env)).any (·.1) || (backToKw pos (keywordEach kws X.env)).any (·.1.isNone)) = false := by rfl) :
    PE X (.Call (.Name x p) (e :: es) kws pos) (tMkK X.K c x gs n nk ms sel sp W t tk) := by
  subst hnk
  obtain ⟨f, fd, g, ds, hM, hds, hb, F⟩ := M.ex
  refine ⟨fun pins s σ H Q I h => ?_⟩
  refine wpAny_Call_Name_kw (ld_glob I hg CF.mg ?_ hdb)
  refine PySem.W.callWith_KW (h₀ := X.base) I.ok.mod.kin hM.kp hall (thn (ha.run pos pins s σ H _ I h) fun us s1 ⟨vs, H1, I1, r, q⟩ => ?_) hpl he
  refine thn (hkw.run pos pins s1 σ H1 _ I1 q) fun ws s2 ⟨zs, H2, I2, rz, l1, l2, q2⟩ => ⟨I2.kIn, ?_⟩
  rw [hks]
  have n1 : ∀ a : Addr, (Value.ref a :: us).length = n + 1 := fun a => by rw [List.length_cons, ← r.length, l1]
  exact run_mkS (g := g) (gV := fun vs zs => gSel sel vs ds zs) hM F hr (fun s3 ki => hb.to s3 _ ws ki (n1 _) (rz.length.symm.trans l2)) (fun a => hb.rel (.cons rfl r) rz) (hx σ) I2 (q2 CF.ok ds hds) (fun s3 a ki => hb.to s3 _ ws ki (n1 _) (rz.length.symm.trans l2))
theorem z_raise {j : Nat} {p2 pos' : Pos} (hc : X.calm = true) (E : ExcF X.K X.mg c x) (tk : Takes X W) (hg : Gl X x) (hdb : (x == ("__debug__" : Str)) = false := by decide) : PS X (.Raise (some (.Call (.Name x p) [.Constant (.str m) j p2] [] pos)) none pos') (sRaise c x W) :=
  ps_raise hc tk (pmk_own F.excBase_ValueError E.q E.mg E.kp (raises_own E.sb E.ty) hg hdb)
theorem z_try {x : Str} {ys : List Str} {body suite : List Stmt} {b₀ : Stmt} {np pos pos' : Pos} {tb : WX → TS} {ts : TS} {Wo : WX} (hs : X.stack = X.env :: X.outer) (hf : X.env.frame = some X.env.locals) (hg : Gl X x) (hm : X.mg x = some (.ref (c.cls x))) (he : ∀ y ∈ ys, PySem.W.exmOne X.K (.ref (c.cls y)) (.ref (c.cls x)) = some (SUB y x)) (tk : Takes X Wo)
    (hb : ∀ (W : WX) (pn : List (Addr × Obj)) (xe : Value → Shared → Prop), Takes (X.tr pn xe) W → PassesOwn (model X.prog X.w) X.A X.env xe → PSs (X.tr pn xe) body (tb W))
    (hsu : ∀ (a : Addr) (oe : Obj) (cls : Value) (d : Option Addr) (pn : List (Addr × Obj)), Zc cls d oe → (∃ vs, oe.data = .fields vs) → PSs (X.suite a ((a, oe) :: pn)) (b₀ :: suite) ts) (hdb : (x == ("__debug__" : Str)) = false := by decide) :
    PS X (.Try body [.ExceptHandler (some (.Name x np)) none (b₀ :: suite) pos'] [] [] pos) (sTry X.K c x ys tb ts Wo) :=
  ⟨fun pins s σ H D I h => (ps_try_only (ts := fun _ _ _ => ts) hs hf ⟨hg, hdb, .inl hm⟩ tk hb hsu).run pins s σ H D I (h he)⟩
end
section
variable {K : PySem.W.Frag} {c : CEnv} {x y m : Str} {gs : List Str} {H : Hp} {Q : VK} {σ : L2.St} {t tk : TA} {ta : TE} {sp : Sp} {W : WX} {D : Ends}
theorem z_calS (k : t σ H fun vs H1 => sp vs H1 Q (WE W σ)) : tCallS sp (WE W) t σ H Q := k
theorem z_mkX (k : t σ H fun vs H1 => ClsOk K c x gs → ∀ p dx, H1 p = none → H1 dx = none → dx ≠ p → sp (.ref p :: vs) (upd (upd H1 dx (.own p)) p (.ins (c.cls x) dx [])) (fun v H2 => v = .non ∧ Q (.ref p) H2) (WE W σ)) : tMkX K c x gs sp W t σ H Q := k
theorem z_mkK {n nk : Nat} {ms : List Cst} {sel : List (Bool × Nat)} (k : t σ H fun vs H1 => tk σ H1 fun zs H2 => vs.length = n ∧ zs.length = nk ∧ (ClsOk K c x gs → ∀ ds, All2 (Cst.Is K) ms ds → ∀ p dx, H2 p = none → H2 dx = none → dx ≠ p →
  sp (gSel sel (.ref p :: vs) ds zs) (upd (upd H2 dx (.own p)) p (.ins (c.cls x) dx [])) (fun v H3 => v = .non ∧ Q (.ref p) H3) (WE W σ))) : tMkK K c x gs n nk ms sel sp W t tk σ H Q := k
theorem z_mtX (k : ta σ H fun v H1 => ∃ a dx fs, v = .ref a ∧ H1 a = some (.ins (c.cls x) dx fs) ∧ fs.lookup m = none ∧ t σ H1 fun vs H2 => sp (v :: vs) H2 Q (WE W σ)) : tMtX c x m sp W ta t σ H Q := k
theorem z_rse (k : W (.ref (c.cls x)) none σ H) : sRaise c x W D σ H := k
theorem z_tr {ys : List Str} {tb : WX → TS} {ts : TS} {Wo : WX} (k : (∀ y ∈ ys, PySem.W.exmOne K (.ref (c.cls y)) (.ref (c.cls x)) = some (SUB y x)) → tb (wOnly K (.ref (c.cls x)) (fun _ _ _ => ts) Wo D) D σ H) : sTry K c x ys tb ts Wo D σ H := k
/-- an exception of the clause's class -/
theorem z_caught {ts : TS} {Wo : WX} {d : Option Addr} (h : PySem.W.exmOne K (.ref (c.cls y)) (.ref (c.cls x)) = some (SUB y x)) (e : SUB y x = true) (k : ts D σ H) : wOnly K (.ref (c.cls x)) (fun _ _ _ => ts) Wo D (.ref (c.cls y)) d σ H :=
  ⟨true, by rw [h, e], fun _ _ _ => k, fun z => nomatch z⟩
theorem cst0 {ds : List V} (h : All2 (Cst.Is K) [] ds) : ds = [] := by cases h; rfl
theorem cstE {ms : List Cst} {ds : List V} (h : All2 (Cst.Is K) (.e :: ms) ds) : ∃ T ds', ds = .ref T :: ds' ∧ (∀ H, SqT K H T []) ∧ All2 (Cst.Is K) ms ds' := by
  cases h with
  | cons h t => obtain ⟨T, rfl, e⟩ := h; exact ⟨T, _, rfl, e, t⟩
theorem cstV {v : V} {ms : List Cst} {ds : List V} (h : All2 (Cst.Is K) (.v v :: ms) ds) : ∃ ds', ds = v :: ds' ∧ All2 (Cst.Is K) ms ds' := by
  cases h with
  | cons h t => cases h; exact ⟨_, rfl, t⟩
end
section
variable {K : PySem.W.Frag} {H : Hp} {σ : L2.St}
theorem z_gTup3 {t' : Addr} {a b d : V} {u v w : Nat} {P : L2.St → Hp → Prop} (h : SqT K H t' [a, b, d]) (k : P (((σ.set u (some a)).set v (some b)).set w (some d)) H) : gTup K 3 (gCons (gName u) (gCons (gName v) (gCons (gName w) gNil))) (.ref t') σ H P :=
  ⟨t', [a, b, d], rfl, h, rfl, a, [b, d], rfl, b, [d], rfl, d, [], rfl, rfl, k⟩
end
theorem dec_rn {a : Addr} : decide (V.ref a = V.non) = false := decide_eq_false (fun z => by cases z)
theorem dec_in {a : Int} : decide (V.int a = V.non) = false := decide_eq_false (fun z => by cases z)
theorem dec_sn {a : Str} : decide (V.str a = V.non) = false := decide_eq_false (fun z => by cases z)
theorem dec_bn {a : Bool} : decide (V.bl a = V.non) = false := decide_eq_false (fun z => by cases z)
/-! constants: tuples of the module -/
def tCstT (K : PySem.W.Frag) (xs : List V) : TE := fun σ H Q => ∀ T, (∀ H, SqT K H T xs) → Q (.ref T) H
theorem z_gtup {X : Cx} {x : Str} {xs : List V} {pos : Pos} (hm : ∃ T, X.mg x = some (.ref T) ∧ ∀ H, SqT X.K H T xs) (hg : Gl X x) (hd : (x == ("__debug__" : Str)) = false := by decide) : PE X (.Name x pos) (tCstT X.K xs) := by
  obtain ⟨T, hm, hs⟩ := hm
  exact ⟨fun pins s σ H Q I h => ld_glob I hg hm ⟨.ref T, H, I, rfl, h T hs⟩ hd⟩
theorem z_cstT {K : PySem.W.Frag} {xs : List V} {σ : L2.St} {H : Hp} {Q : VK} (k : ∀ T, (∀ H, SqT K H T xs) → Q (.ref T) H) : tCstT K xs σ H Q := k
theorem sqT_lit {K : PySem.W.Frag} {T : Addr} {dd : Option Addr} {its : List Value} {n : Nat} {sl : Array (Option Value)} {xs : List V} (l : K.lookup T = some ⟨.type "tuple", dd, .seq its.toArray n, sl⟩) (h : Vals xs its) (hs : xs.length ≤ 1000) : ∀ H, SqT K H T xs := fun H =>
  .inr ⟨_, _, _, l, rfl, rfl, by have := h.length; simp; exact Nat.le_trans (by omega : its.length ≤ 1000) (by decide), by simpa using h⟩
/-- an error of the class y, as «except x» asks -/
theorem exm_of {K : PySem.W.Frag} {C D : Addr} {b : Bool} (h1 : PySem.W.subIn K (.ref C) (.type "BaseException") = some true) (h2 : PySem.W.isClsIn K C = true) (h3 : PySem.W.typeIn K (.ref C) = some (.type "type")) (h4 : PySem.W.subIn K (.ref D) (.ref C) = some b) :
    PySem.W.exmOne K (.ref D) (.ref C) = some b := by
  have e1 : (PySem.W.subIn K (.ref C) (.type "BaseException") == some true) = true := by rw [h1] <;> rfl
  have e2 : ((PySem.W.clsIn K C).isSome && PySem.W.typeIn K (.ref C) == some (.type "type")) = true := by
    have q : (PySem.W.clsIn K C).isSome = true := h2
    rw [q, h3] <;> rfl
  show (if (PySem.W.subIn K (.ref C) (.type "BaseException") == some true) = true then (if ((PySem.W.clsIn K C).isSome && PySem.W.typeIn K (.ref C) == some (.type "type")) = true then PySem.W.subIn K (.ref D) (.ref C) else none) else none) = some b
  rw [if_pos e1, if_pos e2]
  exact h4

local macro_rules | `(tactic| walk_at "z") => `(tactic| with_reducible first
  | refine z_calS ?_ | refine z_mkX ?_ | refine z_mkK ?_ | refine z_mtX ?_ | refine z_rse ?_ | (refine z_tr ?_; intro _) | (refine z_cstT ?_; intro _ _) | refine z_forEA ?_ | refine z_lenSet ?_)
local macro_rules | `(tactic| walk_at "zy") => `(tactic| repeat (first | walk_at "z" | walk_at "zd" | rw [decide_eq_true rfl] | rw [dec_rn] | rw [dec_in] | rw [dec_sn] | rw [dec_bn]))

/-! dicts of the module with texts as keys; texts sign by sign -/
/-- a constant: a value, or a tuple -/
inductive DV where
  | v (x : V)
  | t (xs : List V)
def DV.Is (K : PySem.W.Frag) : DV → V → Prop
  | .v x, u => u = x
  | .t xs, u => ∃ T, u = .ref T ∧ ∀ H, SqT K H T xs
structure KD (K : PySem.W.Frag) (w : World) (mg : Str → Option Value) (x : Str) (l : List (Str × DV)) : Prop where
  ex : ∃ (d : Addr) (es : Array DictEntry) (n : Nat), mg x = some (.ref d) ∧ KDict K w d es n ∧ ∀ z : Str, (l.lookup z = none → PySem.W.nsIn K d z = some none) ∧ ∀ dv, l.lookup z = some dv → ∃ u v, PySem.W.nsIn K d z = some (some u) ∧ RelV v u ∧ dv.Is K v
def tKin (l : List (Str × DV)) (ta : TE) : TE := fun σ H Q => ta σ H fun x H1 => ∃ z, x = .str z ∧ Q (.bl (l.lookup z).isSome) H1
def tKout (l : List (Str × DV)) (ta : TE) : TE := fun σ H Q => ta σ H fun x H1 => ∃ z, x = .str z ∧ Q (.bl (!(l.lookup z).isSome)) H1
def tKix (K : PySem.W.Frag) (l : List (Str × DV)) (ta : TE) : TE := fun σ H Q => ta σ H fun x H1 => ∃ z dv, x = .str z ∧ l.lookup z = some dv ∧ ∀ v, dv.Is K v → Q v H1
section
variable {X : Cx} {x : Str} {l : List (Str × DV)} {p pos : Pos} {e : Expr} {te : TE}
theorem kd_get {K : PySem.W.Frag} {d : Addr} (h : ∀ z : Str, (l.lookup z = none → PySem.W.nsIn K d z = some none) ∧ ∀ dv, l.lookup z = some dv → ∃ u v, PySem.W.nsIn K d z = some (some u) ∧ RelV v u ∧ dv.Is K v) (z : Str) : ∃ r, PySem.W.nsIn K d z = some r ∧ r.isSome = (l.lookup z).isSome := by
  cases q : l.lookup z with
  | none => exact ⟨none, (h z).1 q, rfl⟩
  | some dv => obtain ⟨u, _, e, _⟩ := (h z).2 dv q; exact ⟨some u, e, rfl⟩
theorem kin_eq {d : Addr} {σ : L2.St} {H : Hp} {Q : VK} {K : PySem.W.Frag} (hz : ∀ z : Str, (l.lookup z = none → PySem.W.nsIn K d z = some none) ∧ ∀ dv, l.lookup z = some dv → ∃ u v, PySem.W.nsIn K d z = some (some u) ∧ RelV v u ∧ dv.Is K v) (h : tKin l te σ H Q) :
    tOp (fun x y H Q => ∃ (z : Str) (r : Option Value), x = .str z ∧ y = .ref d ∧ PySem.W.nsIn K d z = some r ∧ Q (.bl r.isSome) H) te (tC (.ref d)) σ H Q := by
  have q : (fun (y : V) (H1 : Hp) => ∃ z, y = .str z ∧ Q (.bl (l.lookup z).isSome) H1) = fun y H1 => ∃ (z : Str) (r : Option Value), y = .str z ∧ V.ref d = .ref d ∧ PySem.W.nsIn K d z = some r ∧ Q (.bl r.isSome) H1 := by
    funext y H1
    refine propext ⟨fun ⟨z, ey, q⟩ => ?_, fun ⟨z, r, ey, _, er, q⟩ => ?_⟩
    · obtain ⟨r, er, es⟩ := kd_get hz z
      exact ⟨z, r, ey, rfl, er, by rw [es]; exact q⟩
    · obtain ⟨r', er', es⟩ := kd_get hz z
      rw [er] at er'; cases er'
      exact ⟨z, ey, by rw [← es]; exact q⟩
  show te σ H _
  exact (congrArg (te σ H) q) ▸ h
theorem kout_eq {d : Addr} {σ : L2.St} {H : Hp} {Q : VK} {K : PySem.W.Frag} (hz : ∀ z : Str, (l.lookup z = none → PySem.W.nsIn K d z = some none) ∧ ∀ dv, l.lookup z = some dv → ∃ u v, PySem.W.nsIn K d z = some (some u) ∧ RelV v u ∧ dv.Is K v) (h : tKout l te σ H Q) :
    tOp (fun x y H Q => ∃ (z : Str) (r : Option Value), x = .str z ∧ y = .ref d ∧ PySem.W.nsIn K d z = some r ∧ Q (.bl (!r.isSome)) H) te (tC (.ref d)) σ H Q := by
  have q : (fun (y : V) (H1 : Hp) => ∃ z, y = .str z ∧ Q (.bl (!(l.lookup z).isSome)) H1) = fun y H1 => ∃ (z : Str) (r : Option Value), y = .str z ∧ V.ref d = .ref d ∧ PySem.W.nsIn K d z = some r ∧ Q (.bl (!r.isSome)) H1 := by
    funext y H1
    refine propext ⟨fun ⟨z, ey, q⟩ => ?_, fun ⟨z, r, ey, _, er, q⟩ => ?_⟩
    · obtain ⟨r, er, es⟩ := kd_get hz z
      exact ⟨z, r, ey, rfl, er, by rw [es]; exact q⟩
    · obtain ⟨r', er', es⟩ := kd_get hz z
      rw [er] at er'; cases er'
      exact ⟨z, ey, by rw [← es]; exact q⟩
  show te σ H _
  exact (congrArg (te σ H) q) ▸ h
theorem z_kin (D : KD X.K X.w X.mg x l) (he : PE X e te) (hg : Gl X x) (hd : (x == ("__debug__" : Str)) = false := by decide) : PE X (.Compare e [.In] [.Name x p] pos) (tKin l te) := by
  obtain ⟨d, es, n, hm, kd, hz⟩ := D.ex
  have a := pe_cmpR (pos := pos) (op_in_kd kd) he (pe_glob (v := .ref d) (pos := p) hg hm rfl hd) (by rfl)
  exact ⟨fun pins s σ H Q I h => a.run pins s σ H Q I (kin_eq hz h)⟩
theorem z_kout (D : KD X.K X.w X.mg x l) (he : PE X e te) (hg : Gl X x) (hd : (x == ("__debug__" : Str)) = false := by decide) : PE X (.Compare e [.NotIn] [.Name x p] pos) (tKout l te) := by
  obtain ⟨d, es, n, hm, kd, hz⟩ := D.ex
  have a := pe_cmpR (pos := pos) (op_notIn_kd kd) he (pe_glob (v := .ref d) (pos := p) hg hm rfl hd) (by rfl)
  exact ⟨fun pins s σ H Q I h => a.run pins s σ H Q I (kout_eq hz h)⟩
theorem z_kinP (D : KD X.K X.w X.mg x l) (he : PE X e te) (hg : Gl X x) (hd : (x == ("__debug__" : Str)) = false := by decide) : PT X (.Compare e [.In] [.Name x p] pos) (tTest (tKin l te)) := by
  obtain ⟨d, es, n, hm, kd, hz⟩ := D.ex
  have a := pt_cmpR (pos := pos) (op_in_kd kd) he (pe_glob (v := .ref d) (pos := p) hg hm rfl hd) (by rfl)
  exact ⟨fun pins s σ H Q I h => a.run pins s σ H Q I (kin_eq hz h)⟩
theorem z_koutP (D : KD X.K X.w X.mg x l) (he : PE X e te) (hg : Gl X x) (hd : (x == ("__debug__" : Str)) = false := by decide) : PT X (.Compare e [.NotIn] [.Name x p] pos) (tTest (tKout l te)) := by
  obtain ⟨d, es, n, hm, kd, hz⟩ := D.ex
  have a := pt_cmpR (pos := pos) (op_notIn_kd kd) he (pe_glob (v := .ref d) (pos := p) hg hm rfl hd) (by rfl)
  exact ⟨fun pins s σ H Q I h => a.run pins s σ H Q I (kout_eq hz h)⟩
theorem ix_kd {d : Addr} {es : Array DictEntry} {n : Nat} (D : KDict X.K X.w d es n) : IxR X (fun x y H Q => ∃ (z : Str) (u0 : Value) (v0 : V), x = .ref d ∧ y = .str z ∧ PySem.W.nsIn X.K d z = some (some u0) ∧ RelV v0 u0 ∧ Q v0 H) := by
  intro value slice pins s σ H x y v u Q I rx ry h hs
  have ex : x = .ref d := by obtain ⟨_, _, _, e, _⟩ := h; exact e
  have ev : v = .ref d := by subst ex; exact rx
  refine PyProof.Rows.tail_any (ev ▸ kd_type D I) PySem.F.slot_dict_getitem.lookup (op_item_kd D pins s σ H x y v u Q I rx ry h) hs
theorem z_kix (D : KD X.K X.w X.mg x l) (he : PE X e te) (hg : Gl X x) (hs : PlainIx e := by exact fun _ _ => rfl) (hd : (x == ("__debug__" : Str)) = false := by decide) : PE X (.Subscript (.Name x p) e pos) (tKix X.K l te) := by
  obtain ⟨d, es, n, hm, kd, hz⟩ := D.ex
  refine ⟨fun pins s σ H Q I h => ?_⟩
  have q : (fun (y : V) (H1 : Hp) => ∃ z dv, y = .str z ∧ l.lookup z = some dv ∧ ∀ v, dv.Is X.K v → Q v H1) = fun y H1 => V.ref d = .ref d ∧ ∃ z dv, y = .str z ∧ l.lookup z = some dv ∧ ∀ v, dv.Is X.K v → Q v H1 := by
    funext y H1
    exact propext ⟨fun z => ⟨rfl, z⟩, fun z => z.2⟩
  have h2 : te σ H fun y H1 => V.ref d = .ref d ∧ ∃ z dv, y = .str z ∧ l.lookup z = some dv ∧ ∀ v, dv.Is X.K v → Q v H1 := (congrArg (te σ H) q) ▸ h
  refine PyProof.Rows.Subscript_ (binT (ta := tC (.ref d)) (tb := te) (pe_glob (v := .ref d) (pos := p) hg hm rfl hd) he I (R := fun x y H1 => x = V.ref d ∧ ∃ z dv, y = .str z ∧ l.lookup z = some dv ∧ ∀ v, dv.Is X.K v → Q v H1) h2 fun v u s2 x y H2 I2 rx ry q => ?_)
  obtain ⟨rfl, z, dv, ey, el, q⟩ := q
  obtain ⟨w, w', en, r, i⟩ := (hz z).2 dv el
  exact ix_kd kd _ _ pins s2 σ H2 _ _ v u Q I2 rx ry ⟨z, w, w', rfl, ey, en, r, q w' i⟩ (hs _ _)
end
/-! what the top has written of such a dict -/
theorem find_lit {K : PySem.W.Frag} {es : List DictEntry} {l : List (Str × DV)} (r : All2 (fun (e : DictEntry) (kv : Str × DV) => (∃ t, e.key = .str kv.1 t) ∧ ∃ v, RelV v e.val ∧ kv.2.Is K v) es l) (z : Str) :
    es.any (·.refKey) = false ∧ (l.lookup z = none → es.find? (·.key.isStr z) = none) ∧ ∀ dv, l.lookup z = some dv → ∃ e v, es.find? (·.key.isStr z) = some e ∧ RelV v e.val ∧ dv.Is K v := by
  induction r with
  | nil => exact ⟨rfl, fun _ => rfl, fun dv h => by cases h⟩
  | @cons e kv es l h _ ih =>
    obtain ⟨⟨t, ek⟩, v, rv, iv⟩ := h
    obtain ⟨k, dv0⟩ := kv
    have b : e.key.isStr z = (z == k) := by
      rw [ek]
      first
        | rfl
        | (rw [Bool.eq_iff_iff]; simp [Value.isStr]; exact ⟨fun h => h.symm, fun h => h.symm⟩)
        | (simp [Value.isStr, eq_comm])
    refine ⟨by rw [List.any_cons, ih.1, Bool.or_false]; unfold DictEntry.refKey; rw [ek], ?_, ?_⟩
    · intro h
      rw [List.lookup_cons] at h
      rw [List.find?_cons, b]
      cases q : z == k with
      | true => rw [q] at h; cases h
      | false => rw [q] at h; exact ih.2.1 h
    · intro dv h
      rw [List.lookup_cons] at h
      rw [List.find?_cons, b]
      cases q : z == k with
      | true => rw [q] at h; cases h; exact ⟨e, v, rfl, rv, iv⟩
      | false => rw [q] at h; exact ih.2.2 dv h
theorem kd_of {K : PySem.W.Frag} {w : World} {mg : Str → Option Value} {x : Str} {d : Addr} {es : List DictEntry} {n : Nat} {l : List (Str × DV)} (hm : mg x = some (.ref d)) (at_ : K.lookup d = some ⟨.type "dict", none, .dict es.toArray n, #[]⟩) (lit : PySem.W.KeysLit w.params es) (low : (d == sysModules) = false)
    (r : All2 (fun (e : DictEntry) (kv : Str × DV) => (∃ t, e.key = .str kv.1 t) ∧ ∃ v, RelV v e.val ∧ kv.2.Is K v) es l) : KD K w mg x l := by
  refine ⟨d, es.toArray, n, hm, ⟨at_, by simpa using lit, low⟩, fun z => ?_⟩
  obtain ⟨h1, h2, h3⟩ := find_lit r z
  unfold PySem.W.nsIn
  rw [at_]
  dsimp only
  refine ⟨fun q => ?_, fun dv q => ?_⟩
  · have e := h2 q
    simp only [e, h1]
    rfl
  · obtain ⟨e, v, e1, rv, iv⟩ := h3 dv q
    refine ⟨e.val, v, ?_, rv, iv⟩
    simp only [e1]
/-! steps -/
section
variable {K : PySem.W.Frag} {l : List (Str × DV)} {ta te : TE} {σ : L2.St} {H : Hp} {Q : VK} {g : TG} {tb : TS} {D : Ends} {x : Str} {b : Bool}
theorem z_kinT (k : ta σ H fun x H1 => ∃ z, x = .str z ∧ Q (.bl (l.lookup z).isSome) H1) : tKin l ta σ H Q := k
theorem z_koutT (k : ta σ H fun x H1 => ∃ z, x = .str z ∧ Q (.bl (!(l.lookup z).isSome)) H1) : tKout l ta σ H Q := k
theorem z_kixT (k : ta σ H fun x H1 => ∃ z dv, x = .str z ∧ l.lookup z = some dv ∧ ∀ v, dv.Is K v → Q v H1) : tKix K l ta σ H Q := k
theorem z_kst {P : Str → Prop} {x : Str} (k : P x) : ∃ z, V.str x = .str z ∧ P z := ⟨x, rfl, k⟩
def zForTx (g : TG) (tb : TS) (D : Ends) (σ : L2.St) (v : V) (H1 : Hp) : Prop := ∃ x, v = .str x ∧ ∃ W : Nat → Nat → L2.St → Hp → Prop, (∃ m, W 0 m σ H1) ∧ ∀ i m σ H, W i m σ H →
  ((Its x).stop i H ∧ D.nx σ H) ∨ ((Its x).go i H ∧ ∃ N : L2.St → Hp → Prop, (∀ σ' H', N σ' H' → ∃ m', m' < m ∧ W (i + 1) m' σ' H') ∧ ∀ y H', (Its x).yld i H y H' → g y σ H' fun σ2 H2 => tb { D with nx := N, ct := N, bk := D.nx } σ2 H2)
theorem z_forTx (k : te σ H fun v H1 => zForTx g tb D σ v H1) : tFor (iStr te) g tb D σ H := k
/-- over the signs of a text -/
theorem z_txt {u : Nat} (Pv : Nat → L2.St → Hp → Prop) (h0 : Pv 0 σ H) (hs : ∀ i c σ' H', x.cps[i]? = some c → Pv i σ' H' → tb { D with nx := Pv (i + 1), ct := Pv (i + 1), bk := D.nx } (σ'.set u (some (.str ⟨#[c]⟩))) H')
    (hd : ∀ σ' H', Pv x.cps.size σ' H' → D.nx σ' H') : zForTx (gName u) tb D σ (.str x) H := by
  refine ⟨x, rfl, fun i m σ H => m = x.cps.size - i ∧ i ≤ x.cps.size ∧ Pv i σ H, ⟨_, rfl, Nat.zero_le _, h0⟩, ?_⟩
  rintro i m σ' H' ⟨rfl, hi, p⟩
  by_cases lt : i < x.cps.size
  · refine .inr ⟨lt, Pv (i + 1), fun σ2 H2 p' => ⟨_, by omega, rfl, by omega, p'⟩, ?_⟩
    rintro y H2 ⟨rfl, c, hc, rfl⟩
    exact hs i c σ' H2 hc p
  · have e : i = x.cps.size := by omega
    subst e
    exact .inl ⟨Nat.le_refl _, hd σ' H' p⟩
/-- the place of a flat value in a list -/
theorem z_index {a : Addr} {ys : List V} {y z : V} {j : Nat} (h : SqL K H a ys) (fy : flatV y = true) (fys : ys.all flatV = true) (hz : ys[j]? = some z) (e : eqV z y = true) (no : ∀ (m : Nat) (z' : V), m < j → ys[m]? = some z' → eqV z' y = false) (k : Q (.int (j : Nat)) H) : rIndex K (.ref a) [y] H Q :=
  ⟨a, ys, y, j, z, rfl, rfl, h, fy, fys, hz, e, no, k⟩
end
/-! a try of several clauses -/
def hMany (c : CEnv) (l : List (Str × TS)) : List (Value × (Addr → Value → Option Addr → TS)) := l.map fun z => (.ref (c.cls z.1), fun _ _ _ => z.2)
def sTryM (K : PySem.W.Frag) (c : CEnv) (l : List (Str × TS)) (ys : List Str) (tb : WX → TS) (Wo : WX) : TS := fun D σ H =>
  (∀ x ∈ l.map (·.1), ∀ y ∈ ys, PySem.W.exmOne K (.ref (c.cls y)) (.ref (c.cls x)) = some (SUB y x)) → tb (wMany K Wo D (hMany c l)) D σ H
theorem z_tryM {X : Cx} {c : CEnv} {l : List (Str × TS)} {ys : List Str} {body : List Stmt} {h₀ : ExceptHandler} {hds : List ExceptHandler} {pos : Pos} {tb : WX → TS} {Wo : WX} (hs : X.stack = X.env :: X.outer) (hf : X.env.frame = some X.env.locals)
    (he : ∀ x ∈ l.map (·.1), ∀ y ∈ ys, PySem.W.exmOne X.K (.ref (c.cls y)) (.ref (c.cls x)) = some (SUB y x)) (tk : Takes X Wo)
    (hb : ∀ (W : WX) (pn : List (Addr × Obj)) (xe : Value → Shared → Prop), Takes (X.tr pn xe) W → PassesOwn (model X.prog X.w) X.A X.env xe → PSs (X.tr pn xe) body (tb W)) (hh : HdsOk X (h₀ :: hds) (hMany c l)) : PS X (.Try body (h₀ :: hds) [] [] pos) (sTryM X.K c l ys tb Wo) :=
  ⟨fun pins s σ H D I h => (ps_try_many hs hf tk hb hh).run pins s σ H D I (h he)⟩
theorem z_trM {K : PySem.W.Frag} {c : CEnv} {l : List (Str × TS)} {ys : List Str} {tb : WX → TS} {Wo : WX} {D : Ends} {σ : L2.St} {H : Hp} (k : (∀ x ∈ l.map (·.1), ∀ y ∈ ys, PySem.W.exmOne K (.ref (c.cls y)) (.ref (c.cls x)) = some (SUB y x)) → tb (wMany K Wo D (hMany c l)) D σ H) : sTryM K c l ys tb Wo D σ H := k
theorem z_caughtM {K : PySem.W.Frag} {c : CEnv} {x y : Str} {ts : TS} {l : List (Str × TS)} {Wo : WX} {D : Ends} {σ : L2.St} {H : Hp} {d : Option Addr} (h : PySem.W.exmOne K (.ref (c.cls y)) (.ref (c.cls x)) = some (SUB y x)) (e : SUB y x = true) (k : ts D σ H) : wMany K Wo D (hMany c ((x, ts) :: l)) (.ref (c.cls y)) d σ H :=
  ⟨true, by rw [h, e], fun _ _ _ => k, fun z => nomatch z⟩
theorem z_asgG {K : PySem.W.Frag} {te : TE} {n : Nat} {gs : TGs} {D : Ends} {σ : L2.St} {H : Hp} (k : te σ H fun x H1 => gTup K n gs x σ H1 D.nx) : tAsg te (gTup K n gs) D σ H := k
/-! ord; kinds of flat values; signs in a comprehension -/
def uOrd : List V → Hp → VK → Prop := fun xs H Q => ∃ x, xs = [.str x] ∧ x.length = 1 ∧ Q (.int (x.cps.getD 0 0 : Nat)) H
theorem call_uOrd {X : Cx} : CallR X (.builtin "ord") uOrd := call_ord
theorem z_ord {c : Nat} {H : Hp} {Q : VK} (k : Q (.int (c : Nat)) H) : uOrd [.str ⟨#[c]⟩] H Q := ⟨_, rfl, rfl, k⟩
theorem z_isss {K : PySem.W.Frag} {H : Hp} {Q : VK} {x : Str} (k : Q (.bl true) H) : uIsi K [.str x, .ty "str"] H Q := ⟨_, _, true, .ty _, .base (.str x), rfl, k⟩
theorem z_issb {K : PySem.W.Frag} {H : Hp} {Q : VK} {x : Str} (k : Q (.bl false) H) : uIsi K [.str x, .ty "bool"] H Q := ⟨_, _, false, .ty _, .base (.str x), rfl, k⟩
theorem z_isis {K : PySem.W.Frag} {H : Hp} {Q : VK} {i : Int} (k : Q (.bl false) H) : uIsi K [.int i, .ty "str"] H Q := ⟨_, _, false, .ty _, .base (.int i), rfl, k⟩
theorem z_isbs {K : PySem.W.Frag} {H : Hp} {Q : VK} {b : Bool} (k : Q (.bl false) H) : uIsi K [.bl b, .ty "str"] H Q := ⟨_, _, false, .ty _, .base (.bl b), rfl, k⟩
theorem z_lenS {K : PySem.W.Frag} {H : Hp} {Q : VK} {x : Str} (h : x.length ≤ 100000) (k : Q (.int x.length) H) : uLen K [.str x] H Q := ⟨Nat.le_trans h (by decide), k⟩
def zLcTx (g : TG) (tt : TT) (te : TE) (vs : List Nat) (σ : L2.St) (v : V) (H1 : Hp) (Q : VK) : Prop := ∃ x, v = .str x ∧ ∀ C, H1 C = none → ∃ W : Nat → Nat → Hp → Prop, (∃ m, W 0 m (upd H1 C (.lst []))) ∧ ∀ i m H, W i m H →
  ((Its x).stop i H ∧ Q (.ref C) H) ∨ ((Its x).go i H ∧ ∃ Nx : Hp → Prop, (∀ H', Nx H' → ∃ m', m' < m ∧ W (i + 1) m' H') ∧ ∀ y H', (Its x).yld i H y H' → g y (wipe σ vs) H' fun σ2 H2 => wipe σ2 vs = wipe σ vs ∧ tt σ2 H2 fun b H3 =>
    if b = true then te σ2 H3 fun z H4 => ∃ acc, H4 C = some (.lst acc) ∧ acc.length < sizeLine ∧ Nx (upd H4 C (.lst (acc ++ [z]))) else Nx H3)
theorem z_lcTx {ti te : TE} {g : TG} {tt : TT} {vs : List Nat} {σ : L2.St} {H : Hp} {Q : VK} (k : ti σ H fun v H1 => zLcTx g tt te vs σ v H1 Q) : tLc (iStr ti) g tt te vs σ H Q := k
theorem z_lctx {x : Str} {u : Nat} {te : TE} {tt : TT} {vs : List Nat} {σ : L2.St} {H : Hp} {Q : VK} (Pv : Addr → Nat → Hp → Prop) (h0 : ∀ C, H C = none → Pv C 0 (upd H C (.lst [])))
    (hs : ∀ C i c H', H C = none → x.cps[i]? = some c → Pv C i H' → wipe ((wipe σ vs).set u (some (.str ⟨#[c]⟩))) vs = wipe σ vs ∧ tt ((wipe σ vs).set u (some (.str ⟨#[c]⟩))) H' fun b H3 =>
      if b = true then te ((wipe σ vs).set u (some (.str ⟨#[c]⟩))) H3 fun z H4 => ∃ acc, H4 C = some (.lst acc) ∧ acc.length < sizeLine ∧ Pv C (i + 1) (upd H4 C (.lst (acc ++ [z]))) else Pv C (i + 1) H3)
    (hd : ∀ C H', H C = none → Pv C x.cps.size H' → Q (.ref C) H') : zLcTx (gName u) tt te vs σ (.str x) H Q := by
  refine ⟨x, rfl, fun C hC => ⟨fun i m H => m = x.cps.size - i ∧ i ≤ x.cps.size ∧ Pv C i H, ⟨_, rfl, Nat.zero_le _, h0 C hC⟩, ?_⟩⟩
  rintro i m H' ⟨rfl, hi, p⟩
  by_cases lt : i < x.cps.size
  · refine .inr ⟨lt, Pv C (i + 1), fun H2 p' => ⟨_, by omega, rfl, by omega, p'⟩, ?_⟩
    rintro y H2 ⟨rfl, c, hc, rfl⟩
    exact hs C i c H2 hC hc p
  · have e : i = x.cps.size := by omega
    subst e
    exact .inl ⟨Nat.le_refl _, hd C H' hC p⟩

local macro_rules | `(tactic| walk_at "z") => `(tactic| with_reducible first
  | refine z_kinT ?_ | refine z_koutT ?_ | refine z_kixT ?_ | refine z_kst ?_ | refine z_forTx ?_ | refine z_asgG ?_ | (refine z_trM ?_; intro _) | refine z_ord ?_ | refine z_isss ?_ | refine z_issb ?_ | refine z_isis ?_ | refine z_isbs ?_ | refine z_lcTx ?_)

/-! ### in, not in of an own instance; methods that raise; raise with a value -/
def uInO (c : CEnv) (x : Str) (sp : Sp) : R2 := fun u v H Q => ∃ b dx fs, v = .ref b ∧ H b = some (.ins (c.cls x) dx fs) ∧ sp [.ref b, u] H (fun z H' => ∃ k, z = .bl k ∧ Q (.bl k) H') E0
def uOutO (c : CEnv) (x : Str) (sp : Sp) : R2 := fun u v H Q => ∃ b dx fs, v = .ref b ∧ H b = some (.ins (c.cls x) dx fs) ∧ sp [.ref b, u] H (fun z H' => ∃ k, z = .bl k ∧ Q (.bl (!k)) H') E0
section
variable {X : Cx} {c : CEnv} {k : Nat} {x m : Str} {ps gs : List Str} {sp : Sp} {W : WX} {p pos apos : Pos} {e o : Expr} {es : List Expr} {t tk : TA} {ta : TE}
theorem op_inO (CF : ClsF X.K X.mg c x gs) (M : Mth X.prog X.w X.K X.mg X.base k (c.cls x) "__contains__" ps sp) (hr : Room k X.A) : OpR X (compareOp .In) (uInO c x sp) := by
  intro pins s σ H u v y z Q I rx ry hq
  obtain ⟨f, fd, hM, hb, F⟩ := M.ex
  obtain ⟨b, dx, fs, rfl, ha, q⟩ := hq
  cases ry
  obtain ⟨mA, J, _⟩ := ins_get I.hok ha
  obtain ⟨od, J, _⟩ := J.look
  obtain ⟨m, hF⟩ := I.fr
  refine PySem.W.in_K hF I.ok.mod.kin J hM.at_ hM.fn ?_
  have r2 : Vals [V.ref b, u] [Value.ref b, y] := .cons rfl (.cons rx .nil)
  refine thn (run_fn (Q := fun z H' => ∃ k, z = .bl k ∧ Q (.bl k) H') (E := E0) (dvs := []) F hr hb .nil pass0 I r2 (by simpa using q)) fun w s' hw => ?_
  obtain ⟨zv, H', I', rz, kk, ez, q'⟩ := hw
  subst ez
  have rz2 : w = Value.bool kk := rz
  subst rz2
  exact wpAny_truthy_bool ⟨.bl kk, H', I', rfl, q'⟩
theorem op_outO (CF : ClsF X.K X.mg c x gs) (M : Mth X.prog X.w X.K X.mg X.base k (c.cls x) "__contains__" ps sp) (hr : Room k X.A) : OpR X (compareOp .NotIn) (uOutO c x sp) := by
  intro pins s σ H u v y z Q I rx ry hq
  obtain ⟨f, fd, hM, hb, F⟩ := M.ex
  obtain ⟨b, dx, fs, rfl, ha, q⟩ := hq
  cases ry
  obtain ⟨mA, J, _⟩ := ins_get I.hok ha
  obtain ⟨od, J, _⟩ := J.look
  obtain ⟨m, hF⟩ := I.fr
  refine PySem.W.notIn_K hF I.ok.mod.kin J hM.at_ hM.fn ?_
  have r2 : Vals [V.ref b, u] [Value.ref b, y] := .cons rfl (.cons rx .nil)
  refine thn (run_fn (Q := fun z H' => ∃ k, z = .bl k ∧ Q (.bl (!k)) H') (E := E0) (dvs := []) F hr hb .nil pass0 I r2 (by simpa using q)) fun w s' hw => ?_
  obtain ⟨zv, H', I', rz, kk, ez, q'⟩ := hw
  subst ez
  have rz2 : w = Value.bool kk := rz
  subst rz2
  exact wpAny_truthy_bool ⟨.bl (!kk), H', I', rfl, q'⟩
theorem z_methX {pl : Sem Bool} (he : PE X o ta) (CF : ClsF X.K X.mg c x gs) (M : MthX X.prog X.w X.K X.mg X.base k (c.cls x) m ps sp) (hx : ∀ σ, PassesAt (L2.CX X.prog X.w) X σ (WE W σ)) (hr : Room k X.A) (ha : PA X (e :: es) t)
    (hst : starEach (e :: es) X.env = (false, eval e X.env) :: starEach es X.env := by rfl) (hpl : (backTo pos (starEach es X.env)).any (·.1) = false := by rfl)
    (ht : eval (.Call (.Attribute o m apos) (e :: es) [] pos) X.env = (do
      let ov ← eval o X.env
      standAt apos.atName
      let (f, first) ← holding [ov] (getMethod ov m pl)
      callWith pos f first (backTo pos (starEach (e :: es) X.env)) (backToKw pos (keywordEach [] X.env))) := by rfl) : PE X (.Call (.Attribute o m apos) (e :: es) [] pos) (tMtX c x m sp W ta t) := by
  obtain ⟨f, fd, hM, hb, F⟩ := M.ex
  refine ⟨fun pins s σ H Q I h => ?_⟩
  refine PySem.W.methodCall_KW (pl := pl) (thn (he.run pins s σ H _ I h) fun u s1 ⟨x, H1, I1, rx, a, dx, fs, ex, ea, l, q⟩ => ?_) ht
  subst ex
  obtain rfl : u = Value.ref a := rx
  refine getmeth_ok I1 ea CF.ok.cl hM l ?_
  refine PySem.W.callWith_K (first := [.ref a]) (h₀ := X.base) I.ok.mod.kin hM.kp (thn (ha.run pos pins s1 σ H1 _ I1 q) fun us s2 ⟨vs, H2, I2, r, q2⟩ => ⟨I2.kIn, ?_⟩) hst hpl
  exact run_fnS (us := .ref a :: us) (vs := .ref a :: vs) F hr hb (hx σ) I2 (.cons rfl r) q2
theorem z_methX0 {pl : Sem Bool} (he : PE X o ta) (CF : ClsF X.K X.mg c x gs) (M : MthX X.prog X.w X.K X.mg X.base k (c.cls x) m ps sp) (hx : ∀ σ, PassesAt (L2.CX X.prog X.w) X σ (WE W σ)) (hr : Room k X.A)
    (ht : eval (.Call (.Attribute o m apos) [] [] pos) X.env = (do
      let ov ← eval o X.env
      standAt apos.atName
      let (f, first) ← holding [ov] (getMethod ov m pl)
      callWith pos f first (backTo pos (starEach [] X.env)) (backToKw pos (keywordEach [] X.env))) := by rfl) : PE X (.Call (.Attribute o m apos) [] [] pos) (tMtX c x m sp W ta tNil) := by
  obtain ⟨f, fd, hM, hb, F⟩ := M.ex
  refine ⟨fun pins s σ H Q I h => ?_⟩
  refine PySem.W.methodCall_KW (pl := pl) (thn (he.run pins s σ H _ I h) fun u s1 ⟨x, H1, I1, rx, a, dx, fs, ex, ea, l, q⟩ => ?_) ht
  subst ex
  obtain rfl : u = Value.ref a := rx
  refine getmeth_ok I1 ea CF.ok.cl hM l ?_
  exact PySem.W.callWith_K0 (first := [.ref a]) I1.kIn hM.kp (run_fnS (us := [.ref a]) (vs := [.ref a]) F hr hb (hx σ) I1 (.cons rfl .nil) q)
end
def sRaiseA (c : CEnv) (x : Str) (te : TE) (W : WX) : TS := fun _ σ H => te σ H fun _ H1 => W (.ref (c.cls x)) none σ H1
theorem z_raiseA {X : Cx} {c : CEnv} {x : Str} {W : WX} {e : Expr} {te : TE} {p pos pos' : Pos} (hc : X.calm = true) (E : ExcF X.K X.mg c x) (tk : Takes X W) (hg : Gl X x) (he : PE X e te) (hs : starEach [e] X.env = (false, eval e X.env) :: starEach [] X.env := by rfl) (hdb : (x == ("__debug__" : Str)) = false := by decide) : PS X (.Raise (some (.Call (.Name x p) [e] [] pos)) none pos') (sRaiseA c x te W) :=
  ps_raise hc tk (SkE.pmk_own1 F.excBase_ValueError E.q E.mg E.kp (raises_own E.sb E.ty) hg he hs hdb)
theorem z_rsa {c : CEnv} {x : Str} {te : TE} {W : WX} {D : Ends} {σ : L2.St} {H : Hp} (k : te σ H fun _ H1 => W (.ref (c.cls x)) none σ H1) : sRaiseA c x te W D σ H := k
/-- a flat value is equal to itself -/
theorem z_neSelf {K : PySem.W.Frag} {v : V} {H : Hp} {Q : VK} (h : flatV v = true) (k : Q (.bl false) H) : uNe K v v H Q := by
  cases v <;> first | (cases h; done) | skip
  · exact z_neN k
  · refine z_neB ?_; rw [decide_eq_true rfl]; exact k
  · refine z_ne ?_; rw [decide_eq_true rfl]; exact k
  · refine z_neS ?_; rw [decide_eq_true rfl]; exact k

local macro_rules | `(tactic| walk_at "z") => `(tactic| with_reducible first
  | refine z_rsa ?_)

/-! == and != of an own instance and anything; == of sequences of own instances -/
namespace ZN
open PySem PySem.Spec PyProof.Rows PySem.SeqAt Builtin
section
variable {prog : Program} {w : World} {A : Around} {E : Value → Shared → Prop} {s : Shared} {K : PySem.W.Frag} {x C L f : Addr} {ox : Obj} {od : Option Obj} {h₀ : Heap} {m : Str → Option Value} {b tb : Value}
theorem ifBound_objNe {M : Model} {args : List Value} {Q : Option Value → Shared → Prop} (X : K.In s.heap) (I : PySem.W.InstAt s.heap x ox C od) (hs : PySem.W.findIn K (.ref C) "__ne__" = some (some (.builtin "object.__ne__")))
    (h : wpAny M A (call (.builtin "object.__ne__") (.ref x :: args)) (fun v => Q (some v)) E s) : wpAny M A (callSpecialIfBound? (.ref x) "__ne__" args) Q E s := by
  simp only [callSpecialIfBound?, bindSpecialIfBound?]
  refine wpAny_holding (wpAny_bind (wpAny_bind (wpAny_bind (I.type.here ((PySem.W.looks_findIn X hs).here ?_)))))
  refine wpAny_bind (wpAny_askSetting (wpAny_ite ?_))
  have fin : wpAny M A (call (.builtin "object.__ne__") ([.ref x] ++ args) >>= fun v => pure (some v)) Q E s := wpAny_bind (wpAny_mono h (fun v s' h' => wpAny_pure h') fun _ _ h' => h')
  split
  · exact wpAny_bind (wpAny_of_eq (F.cmp_object.ne.bind _) (wpAny_pure (by exact fin)))
  · exact wpAny_tryCatch (wpAny_bind (wpAny_of_eq (F.cmp_object.ne.bind _) (wpAny_pure (by exact fin))))
theorem entry_ne (X : K.In s.heap) (I : PySem.W.InstAt s.heap x ox C od) (he : PySem.W.findIn K (.ref C) "__eq__" = some (some (.ref f))) (hf : PySem.W.isFn K (.ref f) = true) (hu : A.units < cLine) {Q : Fin → Shared → Prop}
    (hcall : wpAny (model prog w) A (call (.ref f) [.ref x, b]) (fun v s' => ∃ k, v = .bool k ∧ Q (.done (.ret (.bool (!k)))) s') E s) :
    wpAny (model prog w) A (Builtin.«object.__ne__» ⟨[.ref x, b], []⟩) Q E s := by
  unfold Builtin.«object.__ne__»
  repeat (first
    | with_reducible refine wpAny_cRoomFor hu ?_
    | (refine wpAny_bind (m := callSpecialIfBound? (.ref x) (Str.ofString "__eq__") [b])
        (PySem.W.ifBound_K X I he hf (wpAny_mono hcall (fun r s' hr => by
          obtain ⟨k, rfl, hq⟩ := hr
          repeat (first | exact hq | exact wpAny_pure hq | exact wpAny_truthy_bool hq | (refine wpAny_bind (m := truthy (.bool _)) (wpAny_truthy_bool ?_)) | wp_step)) fun _ _ e => e)))
    | wp_step)
theorem call_ne (X : K.In s.heap) (I : PySem.W.InstAt s.heap x ox C od) (hm : PySem.W.mroIn K C (.type "object") = some true) (he : PySem.W.findIn K (.ref C) "__eq__" = some (some (.ref f))) (hf : PySem.W.isFn K (.ref f) = true) (hu : A.units + 1 < cLine) {Q : Value → Shared → Prop}
    (hcall : wpAny (model prog w) A.in1 (call (.ref f) [.ref x, b]) (fun v s' => ∃ k, v = .bool k ∧ Q (.bool (!k)) s') E s) :
    wpAny (model prog w) A (call (.builtin "object.__ne__") [.ref x, b]) Q E s :=
  wpAny_call (codeAny_call_builtin F.cmp_object.ne.plain F.cmpEntry_ne (PySem.W.check_slot F.cmpKind_ne F.cmpSplit_ne (I.type.andThen (PySem.W.looks_mroIn X hm)) (F.cmpArgs_ne _ _)
    (entry_ne (A := A.in1) X I he hf hu (wpAny_mono hcall (fun v s' hv => by
      obtain ⟨k, rfl, hq⟩ := hv
      first | exact ⟨k, rfl, wpAny_pure hq⟩ | exact ⟨k, rfl, wpAny_pure (wpAny_pure hq)⟩ | exact ⟨k, rfl, hq⟩) fun _ _ e => e))))
theorem ne_K {Q : Value → Shared → Prop} (hu : A.units + 1 < cLine) (F : PyProof.Rows.Fr h₀ L s.heap m) (X₀ : K.In h₀) (I : PySem.W.InstAt s.heap x ox C od) (hb : PySem.W.Looks (model prog w) s.heap (typeOf b) tb) (hn : PySem.W.notFirst K C tb = true)
    (hs : PySem.W.findIn K (.ref C) "__ne__" = some (some (.builtin "object.__ne__"))) (hm : PySem.W.mroIn K C (.type "object") = some true) (he : PySem.W.findIn K (.ref C) "__eq__" = some (some (.ref f))) (hf : PySem.W.isFn K (.ref f) = true)
    (h : wpAny (model prog w) A.in1 (call (.ref f) [.ref x, b]) (fun v s' => ∃ k, v = .bool k ∧ Q (.bool (!k)) s') E s) : wpAny (model prog w) A (richCompare .NotEq (.ref x) b) Q E s := by
  have X := X₀.keeps F.keep
  have one : wpAny (model prog w) A (tryCompare (.ref x) (cmpInfo .NotEq).2.1 b) (fun r s' => ∃ v, r = some v ∧ Q v s') E s := by
    unfold tryCompare
    refine wpAny_bind (ifBound_objNe X I hs (call_ne X I hm he hf hu (wpAny_mono h (fun v s' hv => ?_) fun _ _ e => e)))
    obtain ⟨k, rfl, hq⟩ := hv
    exact ⟨k, rfl, wpAny_pure ⟨_, rfl, hq⟩⟩
  unfold richCompare
  simp only [oneThing_ref]
  refine wpAny_holding (wpAny_bind (wpAny_cRoomFor (Nat.lt_of_succ_lt hu) ?_))
  refine wpAny_bind (I.type.here (wpAny_bind (hb.here ?_)))
  split
  · rename_i q
    have e : PySem.W.subIn K tb (.ref C) = some false := by
      rcases Bool.or_eq_true_iff.mp hn with e | e
      · rw [beq_iff_eq.mp e] at q; simp at q
      · exact beq_iff_eq.mp e
    refine wpAny_bind ((PySem.W.looks_subIn X e).here ?_)
    simp only [Bool.false_eq_true, if_false]
    refine wpAny_bind (wpAny_mono one (fun r s' z => ?_) fun _ _ e => e)
    obtain ⟨v, rfl, hq⟩ := z
    exact wpAny_pure hq
  · refine wpAny_bind (wpAny_pure ?_)
    simp only [Bool.false_eq_true, if_false]
    refine wpAny_bind (wpAny_mono one (fun r s' z => ?_) fun _ _ e => e)
    obtain ⟨v, rfl, hq⟩ := z
    exact wpAny_pure hq
end
end ZN
/-- what an own instance of x may be compared with -/
def RTy (K : PySem.W.Frag) (c : CEnv) (x : Str) (H : Hp) (v : V) : Prop :=
  (∃ b y dy gs, v = .ref b ∧ H b = some (.ins (c.cls y) dy gs) ∧ (y = x ∨ PySem.W.subIn K (.ref (c.cls y)) (.ref (c.cls x)) = some false)) ∨ v = .non ∨ (∃ i, v = .int i) ∨ (∃ b, v = .bl b) ∨ (∃ s, v = .str s) ∨ (∃ b xs, v = .ref b ∧ SqT K H b xs) ∨ (∃ b xs, v = .ref b ∧ SqL K H b xs)
theorem RTy.own {K : PySem.W.Frag} {c : CEnv} {x : Str} {H : Hp} {b dy : Addr} {gs : List (Str × V)} (h : H b = some (.ins (c.cls x) dy gs)) : RTy K c x H (.ref b) := .inl ⟨b, x, dy, gs, rfl, h, .inl rfl⟩
theorem RTy.non {K : PySem.W.Frag} {c : CEnv} {x : Str} {H : Hp} : RTy K c x H .non := .inr (.inl rfl)
theorem RTy.int {K : PySem.W.Frag} {c : CEnv} {x : Str} {H : Hp} {i : Int} : RTy K c x H (.int i) := .inr (.inr (.inl ⟨i, rfl⟩))
theorem RTy.tup {K : PySem.W.Frag} {c : CEnv} {x : Str} {H : Hp} {b : Addr} {xs : List V} (h : SqT K H b xs) : RTy K c x H (.ref b) := .inr (.inr (.inr (.inr (.inr (.inl ⟨b, xs, rfl, h⟩)))))
theorem RTy.lst {K : PySem.W.Frag} {c : CEnv} {x : Str} {H : Hp} {b : Addr} {xs : List V} (h : SqL K H b xs) : RTy K c x H (.ref b) := .inr (.inr (.inr (.inr (.inr (.inr ⟨b, xs, rfl, h⟩)))))
section
variable {X : Cx} {c : CEnv} {k : Nat} {x : Str} {ps gs : List Str} {sp : Sp}
theorem looks_rty {pins : List (Addr × Obj)} {σ : L2.St} {H : Hp} {s : Shared} {v : V} {z : Value} (I : Inv X pins σ H s) (IF : IsF X.K c x) (r : RelV v z) (t : RTy X.K c x H v) : ∃ tb, PySem.W.Looks (model X.prog X.w) s.heap (typeOf z) tb ∧ PySem.W.notFirst X.K (c.cls x) tb = true := by
  have nf : ∀ n, ["int", "bool", "str", "NoneType", "tuple", "list", "dict"].contains n = true → PySem.W.notFirst X.K (c.cls x) (.type n) = true := fun n hn => by
    unfold PySem.W.notFirst
    rw [IF.si n hn]
    simp
  rcases t with ⟨b, y, dy, gs, rfl, hb, h⟩ | rfl | ⟨i, rfl⟩ | ⟨b, rfl⟩ | ⟨s', rfl⟩ | ⟨b, xs, rfl, h⟩ | ⟨b, xs, rfl, h⟩
  · cases r
    obtain ⟨mB, J, _⟩ := ins_get I.hok hb
    obtain ⟨od, J, _⟩ := J.look
    refine ⟨_, J.type, ?_⟩
    unfold PySem.W.notFirst
    rcases h with rfl | h
    · simp
    · rw [h]; simp
  · cases r
    exact ⟨.type "NoneType", fun A Q E s k q => wpAny_typeOf (show s.TypeIs .none "NoneType" from rfl) q, nf _ (by decide)⟩
  · obtain ⟨tk, rfl⟩ : ∃ tk, z = .int i tk := r
    exact ⟨.type "int", fun A Q E s k q => wpAny_typeOf (show s.TypeIs (.int i tk) "int" from rfl) q, nf _ (by decide)⟩
  · obtain rfl : z = .bool b := r
    exact ⟨.type "bool", fun A Q E s k q => wpAny_typeOf (show s.TypeIs (.bool b) "bool" from rfl) q, nf _ (by decide)⟩
  · obtain ⟨tk, rfl⟩ : ∃ tk, z = .str s' tk := r
    exact ⟨.type "str", fun A Q E s k q => wpAny_typeOf (show s.TypeIs (.str s' tk) "str" from rfl) q, nf _ (by decide)⟩
  · cases r
    obtain ⟨its, r, hT, _⟩ := I.tuple h
    obtain ⟨oT, hoT, hcT, _⟩ := id hT
    exact ⟨.type "tuple", fun A Q E s k q => wpAny_typeOf_ref (k _ _ hoT) (by rw [hcT]; exact q), nf _ (by decide)⟩
  · cases r
    obtain ⟨its, r, hT, _⟩ := I.list h
    obtain ⟨oT, n, hoT, hcT, _⟩ := id hT
    exact ⟨.type "list", fun A Q E s k q => wpAny_typeOf_ref (k _ _ hoT) (by rw [hcT]; exact q), nf _ (by decide)⟩
/-- == of an own instance and anything -/
def uEqA (K : PySem.W.Frag) (c : CEnv) (x : Str) (sp : Sp) : R2 := fun u v H Q => ∃ a dx fs, u = .ref a ∧ H a = some (.ins (c.cls x) dx fs) ∧ RTy K c x H v ∧ sp [.ref a, v] H (fun z H' => ∃ k, z = .bl k ∧ Q (.bl k) H') E0
def uNeA (K : PySem.W.Frag) (c : CEnv) (x : Str) (sp : Sp) : R2 := fun u v H Q => ∃ a dx fs, u = .ref a ∧ H a = some (.ins (c.cls x) dx fs) ∧ RTy K c x H v ∧ sp [.ref a, v] H (fun z H' => ∃ k, z = .bl k ∧ Q (.bl (!k)) H') E0
theorem op_eqA (CF : ClsF X.K X.mg c x gs) (IF : IsF X.K c x) (M : Mth X.prog X.w X.K X.mg X.base k (c.cls x) "__eq__" ps sp) (hr : Room k X.A) : OpR X (compareOp .Eq) (uEqA X.K c x sp) := by
  intro pins s σ H u v y z Q I rx ry hq
  obtain ⟨f, fd, hM, hb, F⟩ := M.ex
  obtain ⟨a, dx, fs, rfl, ha, ht, q⟩ := hq
  cases rx
  obtain ⟨tb, LT, hn⟩ := looks_rty I IF ry ht
  obtain ⟨mA, J, _⟩ := ins_get I.hok ha
  obtain ⟨od, J, _⟩ := J.look
  obtain ⟨m, hF⟩ := I.fr
  show wpAny (model X.prog X.w) X.A (richCompare .Eq (.ref a) z) (EP X pins σ Q) X.xe s
  refine PySem.W.cmp_K (op := .Eq) (tb := tb) hr.units0 hF I.ok.mod.kin J LT hn hM.at_ hM.fn ?_
  have r2 : Vals [V.ref a, v] [Value.ref a, z] := .cons rfl (.cons ry .nil)
  refine thn (run_fn (Q := fun z H' => ∃ k, z = .bl k ∧ Q (.bl k) H') (E := E0) (dvs := []) F hr hb .nil pass0 I r2 (by simpa using q)) fun w s' hw => ?_
  obtain ⟨zv, H', I', rz, hq⟩ := hw
  obtain ⟨kk, ez, q'⟩ := hq
  subst ez
  have rz2 : w = Value.bool kk := rz
  subst rz2
  exact ⟨.bl kk, H', I', rfl, q'⟩
theorem z_fldH {K : PySem.W.Frag} {c : CEnv} {x f : Str} {gs : List Str} {H : Hp} {Q : VK} {p dx : Addr} {fs : List (Str × V)} {v : V} (h : H p = some (.ins (c.cls x) dx fs)) (ok : ClsOk K c x gs) (l : fs.lookup f = some v) (n : gs.contains f = true) (k : Q v H) : zFld K f (.ref p) H Q := z_fld ok h l n k
theorem z_setH {K : PySem.W.Frag} {c : CEnv} {x f : Str} {gs : List Str} {H : Hp} {p dx : Addr} {fs : List (Str × V)} {N : Hp → Prop} {y : V} (h : H p = some (.ins (c.cls x) dx fs)) (ok : ClsOk K c x gs) (n : gs.contains f = true) (l : fs.length < 1000) (k : N (upd H p (.ins (c.cls x) dx (putF f y fs)))) : zSet K f y (.ref p) H N := z_set ok h n l k
theorem run_at {X : Cx} {k : Nat} {ps : List Str} {sp : Sp} {A : Around} {f : Addr} {fd : FuncData} {pins : List (Addr × Obj)} {σ : L2.St} {H : Hp} {s : Shared} {Q : VK} {us : List Value} {vs : List V} (sb : Sub X k A) (F : FnOk X.prog X.w X.K X.mg X.base CX0 k f fd ps sp) (hb : Binds X.K fd ps [])
    (I : Inv X pins σ H s) (r2 : Vals vs us) (h : sp vs H Q E0) : wpAny (model X.prog X.w) A (call (.ref f) us) (EP X pins σ Q) X.xe s := by
  have hl : us.length = ps.length := by rw [← r2.length]; exact F.len _ _ _ _ h
  have e0 : Env0 X.prog X.w X.K X.mg X.base A X.stack s H := by
    have e := I.env0
    exact ⟨by rw [sb.fr]; exact e.frames, e.mod, e.bs, e.bsz, e.funs, e.frf, e.hok, e.bare⟩
  refine wpAny_call (codeAny_mono (F.run A X.stack s H ⟨us, []⟩ us vs Q E0 sb.room e0 (by
    have := hb s us I.kIn (by simpa using hl)
    simpa using this) r2 h) fun r s' hq => ?_)
  cases r with
  | error e => exact pass0 pins σ H s e s' I hq
  | ok fl =>
    cases fl with
    | ret u => exact I.after hq
    | next => exact False.elim hq
    | brk => exact False.elim hq
    | cont => exact False.elim hq
theorem op_neA (CF : ClsF X.K X.mg c x gs) (IF : IsF X.K c x) (NE : PySem.W.findIn X.K (.ref (c.cls x)) "__ne__" = some (some (.builtin "object.__ne__"))) (M : Mth X.prog X.w X.K X.mg X.base k (c.cls x) "__eq__" ps sp) (hr : Room (k + 1) X.A) : OpR X (compareOp .NotEq) (uNeA X.K c x sp) := by
  intro pins s σ H u v y z Q I rx ry hq
  obtain ⟨f, fd, hM, hb, F⟩ := M.ex
  obtain ⟨a, dx, fs, rfl, ha, ht, q⟩ := hq
  cases rx
  obtain ⟨tb, LT, hn⟩ := looks_rty I IF ry ht
  obtain ⟨mA, J, _⟩ := ins_get I.hok ha
  obtain ⟨od, J, _⟩ := J.look
  obtain ⟨m, hF⟩ := I.fr
  show wpAny (model X.prog X.w) X.A (richCompare .NotEq (.ref a) z) (EP X pins σ Q) X.xe s
  refine ZN.ne_K (tb := tb) (by have := hr.un; omega) hF I.ok.mod.kin J LT hn NE CF.ok.hm hM.at_ hM.fn ?_
  have r2 : Vals [V.ref a, v] [Value.ref a, z] := .cons rfl (.cons ry .nil)
  refine wpAny_mono (run_at (A := X.A.in1) (Q := fun z H' => ∃ k, z = .bl k ∧ Q (.bl (!k)) H') ⟨hr.in1, rfl⟩ F hb I r2 q) (fun w s' hw => ?_) fun _ _ e => e
  obtain ⟨zv, H', I', rz, hq⟩ := hw
  obtain ⟨kk, ez, q'⟩ := hq
  subst ez
  have rz2 : w = Value.bool kk := rz
  subst rz2
  exact ⟨kk, rfl, .bl (!kk), H', I', rfl, q'⟩
end

local macro_rules | `(tactic| walk_at "z") => `(tactic| with_reducible first
  | ((show zFld _ _ _ _ _); refine z_fldH (by walk_at "lk") (by assumption) (by with_unfolding_all rfl) (by with_unfolding_all rfl) ?_)
  | ((show zSet _ _ _ _ _ _); refine z_setH (by walk_at "lk") (by assumption) (by with_unfolding_all rfl) (by with_unfolding_all exact of_decide_eq_true rfl) ?_))

/-! ### str of an integer or a text -/
def uStr : List V → Hp → VK → Prop := fun vs H Q => match vs with
  | [.int i] => i.natAbs.log2 < 1920 ∧ Q (.str (toString i)) H
  | [.str x] => Q (.str x) H
  | _ => False
theorem call_uStr {X : Cx} : CallR X (.type "str") uStr := by
  intro pins s σ H vs us Q I r h
  rcases vs with _ | ⟨x, _ | ⟨y, t⟩⟩
  · exact h.elim
  · cases x <;> first | exact h.elim | skip
    · exact call_str_int pins s σ H _ _ Q I r ⟨_, rfl, h⟩
    · exact SkE.call_str_str pins s σ H _ _ Q I r ⟨_, rfl, h⟩
  · cases x <;> exact h.elim
theorem z_strI {i : Int} {H : Hp} {Q : VK} (h : -1000000 ≤ i ∧ i ≤ 1000000) (k : Q (.str (toString i)) H) : uStr [.int i] H Q := by
  refine ⟨?_, k⟩
  rcases Nat.eq_zero_or_pos i.natAbs with z | z
  · rw [z]; decide
  · have : i.natAbs < 2 ^ 1920 := Nat.lt_of_le_of_lt (show i.natAbs ≤ 1000000 by omega) (Nat.lt_of_lt_of_le (show 1000000 < 2 ^ 20 by decide) (Nat.pow_le_pow_right (by decide) (by decide)))
    exact (Nat.log2_lt (by omega)).mpr this

/-! ### the heap without some of its places -/
open Classical in
noncomputable def hid (H : Hp) (ps : List Addr) : Hp := fun a => if a ∈ ps then none else H a
/-- each of these places is taken -/
def Occ (H : Hp) (ps : List Addr) : Prop := ∀ p ∈ ps, ∃ o, H p = some o
section
variable {K : PySem.W.Frag} {H H' : Hp} {p q : Addr} {o : HO} {ps qs : List Addr}
theorem hid_out {a : Addr} (h : a ∉ ps) : hid H ps a = H a := by unfold hid; rw [if_neg h]
theorem hid_in {a : Addr} (h : a ∈ ps) : hid H ps a = none := by unfold hid; rw [if_pos h]
theorem hid_nil : hid H [] = H := by funext a; exact hid_out (fun z => by cases z)
theorem hid_sub (h : ∀ a ∈ ps, a ∈ qs) : Same (hid H qs) (hid H ps) := fun a o e => by
  by_cases c : a ∈ qs
  · rw [hid_in c] at e; cases e
  · rw [hid_out c] at e; rw [hid_out fun z => c (h a z)]; exact e
theorem hid_le : Same (hid H ps) H := fun a o e => by
  by_cases c : a ∈ ps
  · rw [hid_in c] at e; cases e
  · rw [hid_out c] at e; exact e
theorem hid_same (s : Same H H') : Same (hid H ps) (hid H' ps) := fun a o e => by
  by_cases c : a ∈ ps
  · rw [hid_in c] at e; cases e
  · rw [hid_out c] at e ⊢; exact s a o e
theorem hid_lk {a : Addr} (h : a ∉ ps) (e : H a = some o) : hid H ps a = some o := by rw [hid_out h]; exact e
theorem hid_put (h : p ∈ ps) : hid (upd H p o) ps = hid H ps := by
  funext a
  by_cases c : a ∈ ps
  · rw [hid_in c, hid_in c]
  · rw [hid_out c, hid_out c]; exact upd_ne (fun z => c (z ▸ h))
theorem hid_free (h : H p = none) : Same (hid H ps) (hid H (p :: ps)) := fun a o e => by
  by_cases c : a ∈ ps
  · rw [hid_in c] at e; cases e
  · rw [hid_out c] at e
    refine hid_lk (fun z => ?_) e
    rcases List.mem_cons.mp z with z | z
    · subst z; rw [h] at e; cases e
    · exact c z
theorem hid_new (h : H q = none) : Same (hid H ps) (hid (upd H q o) ps) := hid_same (Same.new h (Same.refl H))
/-- what stood before p was made stays when p is hidden -/
theorem hid_of (h : H p = none) (s : Same (hid H ps) (hid H' ps)) : Same (hid H ps) (hid H' (p :: ps)) := fun a u e => by
  by_cases c : a ∈ ps
  · rw [hid_in c] at e; cases e
  · have e' := e
    rw [hid_out c] at e'
    have x := s a u e
    rw [hid_out c] at x
    refine hid_lk (fun z => ?_) x
    rcases List.mem_cons.mp z with z | z
    · subst z; rw [h] at e'; cases e'
    · exact c z
theorem hid_ofS (h : H p = none) (s : Same H H') : Same (hid H ps) (hid H' (p :: ps)) := hid_of h (hid_same s)
theorem hidS1 (h : H p = none) (s : Same H H') : Same H (hid H' [p]) := fun a u e => hid_lk (fun z => by rw [List.mem_singleton] at z; subst z; rw [h] at e; cases e) (s a u e)
theorem Occ.nil : Occ H [] := fun _ h => by cases h
theorem Occ.cons (h : H p = some o) (t : Occ H ps) : Occ H (p :: ps) := fun a ha => by
  rcases List.mem_cons.mp ha with rfl | ha
  · exact ⟨o, h⟩
  · exact t a ha
theorem Occ.same (s : Same H H') (h : Occ H ps) : Occ H' ps := fun a ha => (h a ha).imp fun _ e => s _ _ e
theorem Occ.put (h : Occ H ps) : Occ (upd H p o) ps := fun a ha => by
  by_cases c : a = p
  · subst c; exact ⟨o, upd_same⟩
  · obtain ⟨u, e⟩ := h a ha; exact ⟨u, lk_ne c e⟩
theorem Occ.no (h : Occ H ps) (hq : H q = none) : q ∉ ps := fun z => by obtain ⟨u, e⟩ := h q z; rw [hq] at e; cases e
end

/-! P: values as plain data, instances too; readings without a heap -/
inductive Da where
  | non | st | bl (b : Bool) | int (i : Int) | str (x : Str) | ty (n : String)
  | tup (l : List Da) | lst (l : List Da) | ins (x : Str) (ks : List Str) (l : List Da)
instance : Inhabited Da := ⟨.non⟩
mutual
inductive Rp (K : PySem.W.Frag) (c : CEnv) (S : Option Addr) (G : Hp) : V → Da → Prop
  | non : Rp K c S G .non .non
  | st {a : Addr} : S = some a → Rp K c S G (.ref a) .st
  | bl (b : Bool) : Rp K c S G (.bl b) (.bl b)
  | int (i : Int) : Rp K c S G (.int i) (.int i)
  | str (x : Str) : Rp K c S G (.str x) (.str x)
  | ty (n : String) : Rp K c S G (.ty n) (.ty n)
  | tup {a : Addr} {xs : List V} {ds : List Da} : SqT K G a xs → RpA K c S G xs ds → Rp K c S G (.ref a) (.tup ds)
  | lst {a : Addr} {xs : List V} {ds : List Da} : G a = some (.lst xs) → RpA K c S G xs ds → Rp K c S G (.ref a) (.lst ds)
  | ins {a dx : Addr} {x : Str} {ks : List Str} {xs : List V} {ds : List Da} : ClsOk K c x ks → G a = some (.ins (c.cls x) dx (ks.zip xs)) → ds.length = ks.length → RpA K c S G xs ds → Rp K c S G (.ref a) (.ins x ks ds)
inductive RpA (K : PySem.W.Frag) (c : CEnv) (S : Option Addr) (G : Hp) : List V → List Da → Prop
  | nil : RpA K c S G [] []
  | cons {v : V} {vs : List V} {d : Da} {ds : List Da} : Rp K c S G v d → RpA K c S G vs ds → RpA K c S G (v :: vs) (d :: ds)
end
section
variable {K : PySem.W.Frag} {c : CEnv} {S : Option Addr} {G G' : Hp} {v : V} {d : Da} {vs : List V} {ds : List Da}
mutual
theorem Rp.same (s : Same G G') : ∀ (d : Da) (v : V), Rp K c S G v d → Rp K c S G' v d
  | .non, _, h => by cases h; exact .non
  | .st, _, h => by cases h with | st e => exact .st e
  | .bl b, _, h => by cases h; exact .bl b
  | .int i, _, h => by cases h; exact .int i
  | .str x, _, h => by cases h; exact .str x
  | .ty n, _, h => by cases h; exact .ty n
  | .tup ds, _, h => by cases h with | tup hs ha => exact .tup (Same.sqT s hs) (RpA.same s ds _ ha)
  | .lst ds, _, h => by cases h with | lst hs ha => exact .lst (s _ _ hs) (RpA.same s ds _ ha)
  | .ins x ks ds, _, h => by cases h with | ins ok hs hl ha => exact .ins ok (s _ _ hs) hl (RpA.same s ds _ ha)
theorem RpA.same (s : Same G G') : ∀ (ds : List Da) (vs : List V), RpA K c S G vs ds → RpA K c S G' vs ds
  | [], _, h => by cases h; exact .nil
  | d :: ds, _, h => by cases h with | cons h1 h2 => exact .cons (Rp.same s d _ h1) (RpA.same s ds _ h2)
end
theorem rpS (s : Same G G') (h : Rp K c S G v d) : Rp K c S G' v d := Rp.same s d v h
theorem rpsS (s : Same G G') (h : RpA K c S G vs ds) : RpA K c S G' vs ds := RpA.same s ds vs h
theorem rpT (h : Rp K c S G v (.tup ds)) : ∃ a xs, v = .ref a ∧ SqT K G a xs ∧ RpA K c S G xs ds := by
  cases h with
  | tup hs ha => exact ⟨_, _, rfl, hs, ha⟩
theorem rpL (h : Rp K c S G v (.lst ds)) : ∃ a xs, v = .ref a ∧ G a = some (.lst xs) ∧ RpA K c S G xs ds := by
  cases h with
  | lst hs ha => exact ⟨_, _, rfl, hs, ha⟩
theorem rpO {x : Str} {ks : List Str} (h : Rp K c S G v (.ins x ks ds)) : ∃ a dx xs, v = .ref a ∧ ClsOk K c x ks ∧ G a = some (.ins (c.cls x) dx (ks.zip xs)) ∧ ds.length = ks.length ∧ RpA K c S G xs ds := by
  cases h with
  | ins ok hs hl ha => exact ⟨_, _, _, rfl, ok, hs, hl, ha⟩
theorem rpN (h : Rp K c S G v .non) : v = .non := by cases h; rfl
theorem rpI {i : Int} (h : Rp K c S G v (.int i)) : v = .int i := by cases h; rfl
theorem rpX {x : Str} (h : Rp K c S G v (.str x)) : v = .str x := by cases h; rfl
theorem rpB {b : Bool} (h : Rp K c S G v (.bl b)) : v = .bl b := by cases h; rfl
theorem rpY {n : String} (h : Rp K c S G v (.ty n)) : v = .ty n := by cases h; rfl
theorem rpSt (h : Rp K c S G v .st) : ∃ a, S = some a ∧ v = .ref a := by cases h with | st e => exact ⟨_, e, rfl⟩
theorem rps0 (h : RpA K c S G vs []) : vs = [] := by cases h; rfl
theorem rpsC (h : RpA K c S G vs (d :: ds)) : ∃ v ws, vs = v :: ws ∧ Rp K c S G v d ∧ RpA K c S G ws ds := by
  cases h with
  | cons h1 h2 => exact ⟨_, _, rfl, h1, h2⟩
theorem rpsC' {w : V} {ws : List V} (h : RpA K c S G (w :: ws) ds) : ∃ d es, ds = d :: es ∧ Rp K c S G w d ∧ RpA K c S G ws es := by
  cases h with
  | cons h1 h2 => exact ⟨_, _, rfl, h1, h2⟩
theorem rpsLen : ∀ {ds : List Da} {vs : List V}, RpA K c S G vs ds → vs.length = ds.length
  | [], _, h => by rw [rps0 h]; rfl
  | d :: ds, _, h => by obtain ⟨v, ws, rfl, _, h2⟩ := rpsC h; simp [rpsLen h2]
theorem rpsGet : ∀ {ds : List Da} {vs : List V} {i : Nat}, RpA K c S G vs ds → ds[i]? = some d → ∃ v, vs[i]? = some v ∧ Rp K c S G v d
  | [], _, _, _, h => by cases h
  | e :: ds, _, i, h, hi => by
    obtain ⟨v, ws, rfl, h1, h2⟩ := rpsC h
    cases i with
    | zero => cases hi; exact ⟨v, rfl, h1⟩
    | succ i => obtain ⟨u, a, b⟩ := rpsGet h2 (by simpa using hi); exact ⟨u, a, b⟩
theorem rpsGetV : ∀ {ds : List Da} {vs : List V} {i : Nat}, RpA K c S G vs ds → vs[i]? = some v → ∃ d, ds[i]? = some d ∧ Rp K c S G v d := by
  intro ds vs i h hi
  have hl := rpsLen h
  have := (List.getElem?_eq_some_iff.mp hi).1
  have e := List.getElem?_eq_getElem (show i < ds.length by omega)
  obtain ⟨u, e2, r⟩ := rpsGet h e
  rw [hi] at e2
  cases e2
  exact ⟨_, e, r⟩
theorem rpsApp : ∀ {ds : List Da} {vs : List V}, RpA K c S G vs ds → ∀ {es : List Da} {ws : List V}, RpA K c S G ws es → RpA K c S G (vs ++ ws) (ds ++ es)
  | [], _, h, _, _, h1 => by rw [rps0 h]; exact h1
  | _ :: _, _, h, _, _, h1 => by obtain ⟨u, ws, rfl, a, b⟩ := rpsC h; exact .cons a (rpsApp b h1)
theorem rpsOne (h : Rp K c S G v d) : RpA K c S G [v] [d] := .cons h .nil
theorem rpsTake : ∀ {ds : List Da} {vs : List V} (k : Nat), RpA K c S G vs ds → RpA K c S G (vs.take k) (ds.take k)
  | [], _, k, h => by rw [rps0 h, List.take_nil, List.take_nil]; exact .nil
  | _ :: _, _, 0, _ => .nil
  | _ :: _, _, k + 1, h => by obtain ⟨u, ws, rfl, a, b⟩ := rpsC h; exact .cons a (rpsTake k b)
theorem rpsDrop : ∀ {ds : List Da} {vs : List V} (k : Nat), RpA K c S G vs ds → RpA K c S G (vs.drop k) (ds.drop k)
  | [], _, k, h => by rw [rps0 h, List.drop_nil, List.drop_nil]; exact .nil
  | _ :: _, _, 0, h => h
  | _ :: _, _, k + 1, h => by obtain ⟨u, ws, rfl, a, b⟩ := rpsC h; exact rpsDrop k b
theorem rpsSet : ∀ {ds : List Da} {vs : List V} (k : Nat), RpA K c S G vs ds → Rp K c S G v d → RpA K c S G (vs.set k v) (ds.set k d)
  | [], _, k, h, _ => by rw [rps0 h]; exact .nil
  | _ :: _, _, 0, h, r => by obtain ⟨u, ws, rfl, a, b⟩ := rpsC h; exact .cons r b
  | _ :: _, _, k + 1, h, r => by obtain ⟨u, ws, rfl, a, b⟩ := rpsC h; exact .cons a (rpsSet k b r)
theorem rpsI : ∀ {xs : List Int} {vs : List V}, RpA K c S G vs (xs.map Da.int) → vs = xs.map V.int
  | [], _, h => rps0 h
  | x :: xs, _, h => by obtain ⟨v, ws, rfl, a, b⟩ := rpsC h; rw [rpI a, rpsI b]; rfl
theorem rpsX : ∀ {xs : List Str} {vs : List V}, RpA K c S G vs (xs.map Da.str) → vs = xs.map V.str
  | [], _, h => rps0 h
  | x :: xs, _, h => by obtain ⟨v, ws, rfl, a, b⟩ := rpsC h; rw [rpX a, rpsX b]; rfl
theorem rpsI' : ∀ {xs : List Int}, RpA K c S G (xs.map V.int) (xs.map Da.int)
  | [] => .nil
  | x :: xs => .cons (.int x) rpsI'
theorem rpsX' : ∀ {xs : List Str}, RpA K c S G (xs.map V.str) (xs.map Da.str)
  | [] => .nil
  | x :: xs => .cons (.str x) rpsX'
end
/-! ### the environment -/
inductive Pv where
  | d (x : Da) | own (l : List Da) | obj (x : Str) (gs ks : List Str) (l : List Da)
abbrev PEnv := List (Option Pv)
structure Pw where
  S : Option (Addr × Addr)
  O : List Addr
  M : List Addr
  self : Option Addr := none
abbrev Pw.st (w : Pw) : Option Addr := w.S.map (·.1)
abbrev Ow := List (Nat × Addr)
abbrev hl (w : Pw) (ow : Ow) : List Addr := ow.map (·.2) ++ w.O
noncomputable abbrev dh (w : Pw) (ow : Ow) (H : Hp) : Hp := hid H (hl w ow)
def SlotOk (K : PySem.W.Frag) (c : CEnv) (w : Pw) (ow : Ow) (H : Hp) (σ : L2.St) (i : Nat) : Pv → Prop
  | .d x => ∃ v, σ[i]? = some (some v) ∧ Rp K c w.st (dh w ow H) v x
  | .own l => ∃ a vs, (i, a) ∈ ow ∧ σ[i]? = some (some (.ref a)) ∧ H a = some (.lst vs) ∧ RpA K c w.st (dh w ow H) vs l
  | .obj x gs ks l => ∃ a dx vs, (i, a) ∈ ow ∧ σ[i]? = some (some (.ref a)) ∧ (ClsOk K c x gs ∧ w.self = some a) ∧ H a = some (.ins (c.cls x) dx (ks.zip vs)) ∧ l.length = ks.length ∧ RpA K c w.st (dh w ow H) vs l
/-- slots and heap as the environment says; H0: the heap at the def's start; B: what stays -/
structure Rel (K : PySem.W.Frag) (c : CEnv) (w : Pw) (H0 B : Hp) (ow : Ow) (H : Hp) (σ : L2.St) (ρ : PEnv) : Prop where
  occ : Occ H (hl w ow)
  dr : ∀ st L, w.S = some (st, L) → Draw H st L ∧ st ∈ w.O ∧ st ∈ w.M
  nd : ∀ p ∈ ow, (∀ st L, w.S = some (st, L) → p.2 ≠ st ∧ p.2 ≠ L) ∧ p.2 ∉ w.O
  inj : ∀ p ∈ ow, ∀ q ∈ ow, p.2 = q.2 → p = q
  fr : ∀ a o, a ∉ w.M → H0 a = some o → H a = some o
  fr2 : ∀ p ∈ ow, H0 p.2 = none ∨ p.2 ∈ w.M
  len : σ.length = ρ.length
  sl : ∀ i x, ρ[i]? = some (some x) → SlotOk K c w ow H σ i x
  bs : Same B (dh w ow H)
/-- grown, but the state of the draws -/
def Ex (S : Option (Addr × Addr)) (H H' : Hp) : Prop := (∀ a o, (∀ st L, S = some (st, L) → a ≠ st) → H a = some o → H' a = some o) ∧ ∀ st L, S = some (st, L) → Draw H' st L
theorem Ex.of {S : Option (Addr × Addr)} {H H' : Hp} (s : Same H H') (d : ∀ st L, S = some (st, L) → Draw H st L) : Ex S H H' := ⟨fun a o _ e => s a o e, fun st L e => (d st L e).same s⟩
theorem Ex.trans {S : Option (Addr × Addr)} {H H1 H2 : Hp} (x : Ex S H H1) (y : Ex S H1 H2) : Ex S H H2 := ⟨fun a o n e => y.1 a o n (x.1 a o n e), y.2⟩
theorem Draw.occ {H : Hp} {st L : Addr} (d : Draw H st L) : ∃ o, H st = some o := by obtain ⟨_, _, _, e, _⟩ := d.ex; exact ⟨_, e⟩
theorem Draw.occL {H : Hp} {st L : Addr} (d : Draw H st L) : ∃ o, H L = some o := by obtain ⟨_, _, _, _, e, _⟩ := d.ex; exact ⟨_, e⟩
section
variable {K : PySem.W.Frag} {c : CEnv} {w : Pw} {H0 B H H' : Hp} {ow : Ow} {σ : L2.St} {ρ : PEnv} {v : V} {d : Da}
theorem Occ.ex {S : Option (Addr × Addr)} {ps : List Addr} (x : Ex S H H') (h : Occ H ps) : Occ H' ps := fun a ha => by
  by_cases e : ∃ st L, S = some (st, L) ∧ a = st
  · obtain ⟨st, L, e, rfl⟩ := e
    exact (x.2 _ _ e).occ
  · obtain ⟨o, ho⟩ := h a ha
    exact ⟨o, x.1 a o (fun st L h z => e ⟨st, L, h, z⟩) ho⟩
theorem Ex.hid {S : Option (Addr × Addr)} {ps : List Addr} (x : Ex S H H') (hs : ∀ st L, S = some (st, L) → st ∈ ps) : Same (hid H ps) (hid H' ps) := fun a o e => by
  by_cases m : a ∈ ps
  · rw [hid_in m] at e; cases e
  · rw [hid_out m] at e ⊢
    exact x.1 a o (fun st L h z => m (z ▸ hs st L h)) e
theorem Rel.stO (r : Rel K c w H0 B ow H σ ρ) : ∀ st L, w.S = some (st, L) → st ∈ hl w ow := fun st L e => List.mem_append_right _ (r.dr st L e).2.1
theorem Ex.dh (x : Ex w.S H H') (r : Rel K c w H0 B ow H σ ρ) : Same (dh w ow H) (dh w ow H') := x.hid r.stO
theorem Rel.notSt (r : Rel K c w H0 B ow H σ ρ) {p : Nat × Addr} (h : p ∈ ow) : ∀ st L, w.S = some (st, L) → p.2 ≠ st := fun st L e => ((r.nd p h).1 st L e).1
theorem SlotOk.imp {x : Pv} {i : Nat} (s : Same (dh w ow H) (dh w ow H')) (k : ∀ p ∈ ow, ∀ o, H p.2 = some o → H' p.2 = some o) (h : SlotOk K c w ow H σ i x) : SlotOk K c w ow H' σ i x := by
  cases x with
  | d x => obtain ⟨v, e, r⟩ := h; exact ⟨v, e, rpS s r⟩
  | own l => obtain ⟨a, vs, m, e, eh, r⟩ := h; exact ⟨a, vs, m, e, k _ m _ eh, rpsS s r⟩
  | obj x gs ks l => obtain ⟨a, dx, vs, m, e, ok, eh, hl, r⟩ := h; exact ⟨a, dx, vs, m, e, ok, k _ m _ eh, hl, rpsS s r⟩
theorem Rel.ex (r : Rel K c w H0 B ow H σ ρ) (x : Ex w.S H H') : Rel K c w H0 B ow H' σ ρ := by
  have s := x.dh r
  refine ⟨r.occ.ex x, fun st L e => ⟨x.2 st L e, (r.dr st L e).2⟩, r.nd, r.inj, fun a o n e => ?_, r.fr2, r.len, fun i y e => (r.sl i y e).imp s (fun p hp o e => x.1 _ _ (r.notSt hp) e), Same.trans r.bs s⟩
  exact x.1 a o (fun st L h z => n (z ▸ (r.dr st L h).2.2)) (r.fr a o n e)
theorem Rel.exOf (r : Rel K c w H0 B ow H σ ρ) (s : Same H H') : Ex w.S H H' := Ex.of s fun st L e => (r.dr st L e).1
theorem Rel.same (r : Rel K c w H0 B ow H σ ρ) (s : Same H H') : Rel K c w H0 B ow H' σ ρ := r.ex (r.exOf s)
theorem Rel.new (r : Rel K c w H0 B ow H σ ρ) {p : Addr} {o : HO} (h : H p = none) : Rel K c w H0 B ow (upd H p o) σ ρ := r.same (Same.new h (Same.refl H))
theorem getElem?_set' {α : Type} {l : List α} {i j : Nat} {x : α} : (l.set i x)[j]? = if i = j then (if j < l.length then some x else none) else l[j]? := by
  by_cases h : i = j
  · subst h; rw [if_pos rfl]
    by_cases h2 : i < l.length
    · rw [if_pos h2, List.getElem?_set_self h2]
    · rw [if_neg h2]; exact List.getElem?_eq_none (by rw [List.length_set]; omega)
  · rw [if_neg h, List.getElem?_set_ne h]
theorem SlotOk.other {x : Pv} {i j : Nat} {y : Option V} (h : SlotOk K c w ow H σ i x) (ne : j ≠ i) : SlotOk K c w ow H (σ.set j y) i x := by
  cases x with
  | d x => obtain ⟨v, e, r⟩ := h; exact ⟨v, by rw [List.getElem?_set_ne ne]; exact e, r⟩
  | own l => obtain ⟨a, vs, m, e, eh, r⟩ := h; exact ⟨a, vs, m, by rw [List.getElem?_set_ne ne]; exact e, eh, r⟩
  | obj x gs ks l => obtain ⟨a, dx, vs, m, e, r⟩ := h; exact ⟨a, dx, vs, m, by rw [List.getElem?_set_ne ne]; exact e, r⟩
/-- a slot takes data -/
theorem Rel.set (r : Rel K c w H0 B ow H σ ρ) (i : Nat) (h : Rp K c w.st (dh w ow H) v d) : Rel K c w H0 B ow H (σ.set i (some v)) (ρ.set i (some (.d d))) := by
  refine ⟨r.occ, r.dr, r.nd, r.inj, r.fr, r.fr2, by rw [List.length_set, List.length_set]; exact r.len, fun j x e => ?_, r.bs⟩
  rw [getElem?_set'] at e
  by_cases q : i = j
  · subst q
    rw [if_pos rfl] at e
    by_cases l : i < ρ.length
    · rw [if_pos l] at e
      cases e
      exact ⟨v, by rw [List.getElem?_set_self (by rw [r.len]; exact l)], h⟩
    · rw [if_neg l] at e; cases e
  · rw [if_neg q] at e
    exact (r.sl j x e).other q
/-- a slot is forgotten -/
theorem Rel.drop (r : Rel K c w H0 B ow H σ ρ) (i : Nat) (y : Option V) : Rel K c w H0 B ow H (σ.set i y) (ρ.set i none) := by
  refine ⟨r.occ, r.dr, r.nd, r.inj, r.fr, r.fr2, by rw [List.length_set, List.length_set]; exact r.len, fun j x e => ?_, r.bs⟩
  rw [getElem?_set'] at e
  by_cases q : i = j
  · subst q
    rw [if_pos rfl] at e
    split at e <;> cases e
  · rw [if_neg q] at e
    exact (r.sl j x e).other q
theorem RpA.hide {S : Option Addr} {vs : List V} {l : List Da} {p : Addr} {ps : List Addr} (h : H p = none) (r : RpA K c S (hid H ps) vs l) (s : Same H H') : RpA K c S (hid H' (p :: ps)) vs l := rpsS (hid_ofS h s) r
/-- a fresh place is hidden: its index says nothing -/
theorem Rel.hide (r : Rel K c w H0 B ow H σ ρ) {p : Addr} {o : HO} {j : Nat} (h : H p = none) : Rel K c w H0 B ((j, p) :: ow) (upd H p o) σ ρ := by
  have s : Same H (upd H p o) := Same.new h (Same.refl H)
  have sd : Same (dh w ow H) (dh w ((j, p) :: ow) (upd H p o)) := hid_ofS h s
  have fresh : ∀ q ∈ ow, q.2 ≠ p := fun q hq z => by
    obtain ⟨u, e⟩ := r.occ q.2 (List.mem_append_left _ (List.mem_map_of_mem hq))
    rw [z, h] at e; cases e
  refine ⟨Occ.cons (o := o) upd_same (r.occ.same s), fun st L e => ⟨(r.dr st L e).1.same s, (r.dr st L e).2⟩, ?_, ?_, fun a o' n e => s _ _ (r.fr a o' n e), ?_, r.len, fun i x e => ?_, Same.trans r.bs sd⟩
  · intro q hq
    rcases List.mem_cons.mp hq with rfl | hq
    · refine ⟨fun st L e => ⟨fun z => ?_, fun z => ?_⟩, fun m => ?_⟩
      · subst z; obtain ⟨o', e'⟩ := (r.dr _ L e).1.occ; rw [h] at e'; cases e'
      · subst z; obtain ⟨o', e'⟩ := (r.dr st _ e).1.occL; rw [h] at e'; cases e'
      · obtain ⟨o', e'⟩ := r.occ p (List.mem_append_right _ m); rw [h] at e'; cases e'
    · exact r.nd q hq
  · intro q hq q' hq' e
    rcases List.mem_cons.mp hq with rfl | hq
    · rcases List.mem_cons.mp hq' with rfl | hq'
      · rfl
      · exact absurd e.symm (fresh q' hq')
    · rcases List.mem_cons.mp hq' with rfl | hq'
      · exact absurd e (fresh q hq)
      · exact r.inj q hq q' hq' e
  · intro q hq
    rcases List.mem_cons.mp hq with rfl | hq
    · cases e : H0 p with
      | none => exact .inl rfl
      | some u =>
        by_cases m : p ∈ w.M
        · exact .inr m
        · have := r.fr p u m e; rw [h] at this; cases this
    · exact r.fr2 q hq
  · have k := r.sl i x e
    cases x with
    | d x => obtain ⟨v, e, rr⟩ := k; exact ⟨v, e, rpS sd rr⟩
    | own l => obtain ⟨a, vs, m, e, eh, rr⟩ := k; exact ⟨a, vs, List.mem_cons_of_mem _ m, e, s _ _ eh, rpsS sd rr⟩
    | obj x gs ks l => obtain ⟨a, dx, vs, m, e, ok, eh, hl, rr⟩ := k; exact ⟨a, dx, vs, List.mem_cons_of_mem _ m, e, ok, s _ _ eh, hl, rpsS sd rr⟩
/-- what is written at a hidden place -/
theorem Rel.write (r : Rel K c w H0 B ow H σ ρ) {j : Nat} {p : Addr} {o : HO} (hm : (j, p) ∈ ow) (sl : ∀ i x, ρ[i]? = some (some x) → (i, p) ∈ ow → SlotOk K c w ow (upd H p o) σ i x) : Rel K c w H0 B ow (upd H p o) σ ρ := by
  have hin : p ∈ hl w ow := List.mem_append_left _ (List.mem_map_of_mem (f := (·.2)) hm)
  have ed : dh w ow (upd H p o) = dh w ow H := hid_put hin
  refine ⟨r.occ.put, fun st L e => ⟨Draw.put ((r.nd _ hm).1 st L e).1 ((r.nd _ hm).1 st L e).2 (r.dr st L e).1, (r.dr st L e).2⟩, r.nd, r.inj, fun a u n e => ?_, r.fr2, r.len, fun i x e => ?_, by rw [ed]; exact r.bs⟩
  · have x := r.fr a u n e
    refine lk_ne (fun z => ?_) x
    subst z
    rcases r.fr2 _ hm with z | z
    · have z : H0 a = none := z
      rw [e] at z; cases z
    · exact n z
  · by_cases q : (i, p) ∈ ow
    · exact sl i x e q
    · have k := r.sl i x e
      have ne : ∀ a, (i, a) ∈ ow → a ≠ p := fun a m z => q (z ▸ m)
      cases x with
      | d x => obtain ⟨v, e, rr⟩ := k; exact ⟨v, e, by rw [ed]; exact rr⟩
      | own l => obtain ⟨a, vs, m, e, eh, rr⟩ := k; exact ⟨a, vs, m, e, lk_ne (ne a m) eh, by rw [ed]; exact rr⟩
      | obj x gs ks l => obtain ⟨a, dx, vs, m, e, ok, eh, hl, rr⟩ := k; exact ⟨a, dx, vs, m, e, ok, lk_ne (ne a m) eh, hl, by rw [ed]; exact rr⟩
end

/-! ### readings without a heap, and what carries them over -/
abbrev WP := Str → PEnv → Prop
structure PD where
  nx : PEnv → Prop
  rt : Da → Prop
  bk : PEnv → Prop := fun _ => False
  ct : PEnv → Prop := fun _ => False
abbrev PEx := PEnv → (Da → Prop) → Prop
abbrev PTe := PEnv → (Bool → Prop) → Prop
abbrev PAr := PEnv → (List Da → Prop) → Prop
abbrev PSt := PD → PEnv → Prop
abbrev PTg := Da → PEnv → (PEnv → Prop) → Prop
abbrev PR2 := Da → Da → (Da → Prop) → Prop
abbrev PR1 := Da → (Da → Prop) → Prop
abbrev PRl := List Da → (Da → Prop) → Prop
abbrev PSp := List Da → (Da → Prop) → (Str → Prop) → Prop
abbrev PSi := List Da → (List Da → Prop) → (Str → Prop) → Prop
structure Cn where
  K : PySem.W.Frag
  c : CEnv
  W : WX
  Wp : WP
section
variable (N : Cn)
def AdW (w : Pw) (H0 B : Hp) : Prop := ∀ x ow H σ ρ, Rel N.K N.c w H0 B ow H σ ρ → N.Wp x ρ → N.W (.ref (N.c.cls x)) none σ H
def Post (w : Pw) (H0 B : Hp) (ow : Ow) (H : Hp) (σ : L2.St) (ρ : PEnv) (Q' : Da → Prop) (Q : VK) : Prop := ∀ v d H', Rel N.K N.c w H0 B ow H' σ ρ → Ex w.S H H' → Rp N.K N.c w.st (dh w ow H') v d → Q' d → Q v H'
def PostT (w : Pw) (H0 B : Hp) (ow : Ow) (H : Hp) (σ : L2.St) (ρ : PEnv) (Q' : Bool → Prop) (Q : Bool → Hp → Prop) : Prop := ∀ b H', Rel N.K N.c w H0 B ow H' σ ρ → Ex w.S H H' → Q' b → Q b H'
def PostA (w : Pw) (H0 B : Hp) (ow : Ow) (H : Hp) (σ : L2.St) (ρ : PEnv) (Q' : List Da → Prop) (Q : List V → Hp → Prop) : Prop := ∀ vs ds H', Rel N.K N.c w H0 B ow H' σ ρ → Ex w.S H H' → RpA N.K N.c w.st (dh w ow H') vs ds → Q' ds → Q vs H'
def SimE (t : TE) (p : PEx) : Prop := ∀ w H0 B, AdW N w H0 B → ∀ ow H σ ρ Q Q', Rel N.K N.c w H0 B ow H σ ρ → p ρ Q' → Post N w H0 B ow H σ ρ Q' Q → t σ H Q
def SimT (t : TT) (p : PTe) : Prop := ∀ w H0 B, AdW N w H0 B → ∀ ow H σ ρ Q Q', Rel N.K N.c w H0 B ow H σ ρ → p ρ Q' → PostT N w H0 B ow H σ ρ Q' Q → t σ H Q
def SimA (t : TA) (p : PAr) : Prop := ∀ w H0 B, AdW N w H0 B → ∀ ow H σ ρ Q Q', Rel N.K N.c w H0 B ow H σ ρ → p ρ Q' → PostA N w H0 B ow H σ ρ Q' Q → t σ H Q
def SimR (r : R2) (q : PR2) : Prop := ∀ w H0 B ow H σ ρ x y dx dy Q Q', Rel N.K N.c w H0 B ow H σ ρ → Rp N.K N.c w.st (dh w ow H) x dx → Rp N.K N.c w.st (dh w ow H) y dy → q dx dy Q' → Post N w H0 B ow H σ ρ Q' Q → r x y H Q
def SimU (r : V → Hp → VK → Prop) (q : PR1) : Prop := ∀ w H0 B ow H σ ρ x dx Q Q', Rel N.K N.c w H0 B ow H σ ρ → Rp N.K N.c w.st (dh w ow H) x dx → q dx Q' → Post N w H0 B ow H σ ρ Q' Q → r x H Q
def SimL (r : List V → Hp → VK → Prop) (q : PRl) : Prop := ∀ w H0 B ow H σ ρ xs ds Q Q', Rel N.K N.c w H0 B ow H σ ρ → RpA N.K N.c w.st (dh w ow H) xs ds → q ds Q' → Post N w H0 B ow H σ ρ Q' Q → r xs H Q
structure AdD (w : Pw) (H0 B : Hp) (D : Ends) (D' : PD) : Prop where
  nx : ∀ ow H σ ρ, Rel N.K N.c w H0 B ow H σ ρ → D'.nx ρ → D.nx σ H
  bk : ∀ ow H σ ρ, Rel N.K N.c w H0 B ow H σ ρ → D'.bk ρ → D.bk σ H
  ct : ∀ ow H σ ρ, Rel N.K N.c w H0 B ow H σ ρ → D'.ct ρ → D.ct σ H
  rt : ∀ ow H σ ρ v d, Rel N.K N.c w H0 B ow H σ ρ → Rp N.K N.c w.st (dh w ow H) v d → D'.rt d → D.rt v H
def SimS (t : TS) (p : PSt) : Prop := ∀ w H0 B, AdW N w H0 B → ∀ ow H σ ρ D D', AdD N w H0 B D D' → Rel N.K N.c w H0 B ow H σ ρ → p D' ρ → t D σ H
def SimG (g : TG) (sl : List Nat) (pg : PTg) : Prop := ∀ w H0 B ow H σ ρ v d Q Q', Rel N.K N.c w H0 B ow H σ ρ → Rp N.K N.c w.st (dh w ow H) v d → pg d ρ Q' → (∀ σ' ρ', Rel N.K N.c w H0 B ow H σ' ρ' → (∀ vs, (∀ i ∈ sl, i ∈ vs) → wipe σ' vs = wipe σ vs) → Q' ρ' → Q σ' H) → g v σ H Q
end
section
variable {N : Cn} {w : Pw} {H0 B H H' : Hp} {ow : Ow} {σ : L2.St} {ρ : PEnv}
theorem Rel.re {K : PySem.W.Frag} {c : CEnv} {B' : Hp} (r : Rel K c w H0 B' ow H σ ρ) (s : Same B B') : Rel K c w H0 B ow H σ ρ := ⟨r.occ, r.dr, r.nd, r.inj, r.fr, r.fr2, r.len, r.sl, Same.trans s r.bs⟩
theorem AdW.re {B' : Hp} (a : AdW N w H0 B) (s : Same B B') : AdW N w H0 B' := fun x ow H σ ρ r q => a x ow H σ ρ (r.re s) q
theorem rpsAt {K : PySem.W.Frag} {c : CEnv} {S : Option Addr} {G : Hp} {vs : List V} {ds : List Da} {i : Int} {d : Da} (h : RpA K c S G vs ds) (e : atI ds i = some d) : ∃ v, atI vs i = some v ∧ Rp K c S G v d := by
  unfold atI at e ⊢
  rw [rpsLen h]
  cases q : ixN ds.length i with
  | none => rw [q] at e; cases e
  | some j =>
    rw [q] at e
    exact rpsGet h e
theorem Post.flat {Q' : Da → Prop} {Q : VK} {v : V} {d : Da} (k : Post N w H0 B ow H σ ρ Q' Q) (r : Rel N.K N.c w H0 B ow H σ ρ) (h : Rp N.K N.c w.st (dh w ow H) v d) (q : Q' d) : Q v H := k v d H r (r.exOf (Same.refl _)) h q
/-- a new list, a new tuple -/
theorem Post.newL {Q' : Da → Prop} {Q : VK} {vs : List V} {ds : List Da} {p : Addr} (k : Post N w H0 B ow H σ ρ Q' Q) (r : Rel N.K N.c w H0 B ow H σ ρ) (h : RpA N.K N.c w.st (dh w ow H) vs ds) (q : Q' (.lst ds)) (hp : H p = none) : Q (.ref p) (upd H p (.lst vs)) :=
  k _ _ _ (r.new hp) (r.exOf (Same.new hp (Same.refl H))) (.lst (hid_lk (r.occ.no hp) upd_same) (rpsS (hid_new hp) h)) q
theorem Post.newT {Q' : Da → Prop} {Q : VK} {vs : List V} {ds : List Da} {p : Addr} (k : Post N w H0 B ow H σ ρ Q' Q) (r : Rel N.K N.c w H0 B ow H σ ρ) (h : RpA N.K N.c w.st (dh w ow H) vs ds) (q : Q' (.tup ds)) (hp : H p = none) : Q (.ref p) (upd H p (.tup vs)) :=
  k _ _ _ (r.new hp) (r.exOf (Same.new hp (Same.refl H))) (.tup (SqT.of (hid_lk (r.occ.no hp) upd_same)) (rpsS (hid_new hp) h)) q
theorem Post.then {Q' Q2 : Da → Prop} {Q : VK} (k : Post N w H0 B ow H σ ρ Q' Q) (s : Ex w.S H H') (i : ∀ d, Q2 d → Q' d) : Post N w H0 B ow H' σ ρ Q2 Q := fun v d H2 r s2 h q => k v d H2 r (Ex.trans s s2) h (i d q)
/-! ### names, constants -/
def pVar (i : Nat) : PEx := fun ρ Q => ∃ d, ρ[i]? = some (some (.d d)) ∧ Q d
def pC (d : Da) : PEx := fun _ Q => Q d
theorem sim_var (i : Nat) : SimE N (tVar i) (pVar i) := by
  intro w H0 B aw ow H σ ρ Q Q' r h k
  obtain ⟨d, e, q⟩ := h
  obtain ⟨v, ev, rv⟩ := r.sl i _ e
  exact ⟨v, ev, k.flat r rv q⟩
theorem sim_int (i : Int) : SimE N (tC (.int i)) (pC (.int i)) := fun w H0 B aw ow H σ ρ Q Q' r h k => k.flat r (.int i) h
theorem sim_str (i : Str) : SimE N (tC (.str i)) (pC (.str i)) := fun w H0 B aw ow H σ ρ Q Q' r h k => k.flat r (.str i) h
theorem sim_bl (i : Bool) : SimE N (tC (.bl i)) (pC (.bl i)) := fun w H0 B aw ow H σ ρ Q Q' r h k => k.flat r (.bl i) h
theorem sim_non : SimE N (tC .non) (pC .non) := fun w H0 B aw ow H σ ρ Q Q' r h k => k.flat r .non h
theorem sim_ty (n : String) : SimE N (tC (.ty n)) (pC (.ty n)) := fun w H0 B aw ow H σ ρ Q Q' r h k => k.flat r (.ty n) h
/-! ### arguments, displays -/
def pNil : PAr := fun _ Q => Q []
def pCons (a : PEx) (t : PAr) : PAr := fun ρ Q => a ρ fun x => t ρ fun xs => Q (x :: xs)
theorem sim_nil : SimA N tNil pNil := fun w H0 B aw ow H σ ρ Q Q' r h k => k [] [] H r (r.exOf (Same.refl _)) .nil h
theorem sim_cons {a : TE} {t : TA} {pa : PEx} {pt : PAr} (ha : SimE N a pa) (ht : SimA N t pt) : SimA N (tCons a t) (pCons pa pt) := by
  intro w H0 B aw ow H σ ρ Q Q' r h k
  refine ha w H0 B aw ow H σ ρ _ _ r h fun v d H1 r1 s1 h1 q1 => ?_
  refine ht w H0 B aw ow H1 σ ρ _ _ r1 q1 fun vs ds H2 r2 s2 h2 q2 => ?_
  exact k _ _ H2 r2 (Ex.trans s1 s2) (.cons (rpS (s2.dh r1) h1) h2) q2
def pLst (t : PAr) : PEx := fun ρ Q => t ρ fun ds => ds.length ≤ 100000 ∧ Q (.lst ds)
def pTup (t : PAr) : PEx := fun ρ Q => t ρ fun ds => ds.length ≤ 100000 ∧ Q (.tup ds)
theorem sim_lst {t : TA} {pt : PAr} (ht : SimA N t pt) : SimE N (tLst t) (pLst pt) := by
  intro w H0 B aw ow H σ ρ Q Q' r h k
  refine ht w H0 B aw ow H σ ρ _ _ r h fun vs ds H1 r1 s1 h1 ⟨l, q1⟩ => ⟨Nat.le_trans (by rw [rpsLen h1]; exact l) (by decide), fun p hp => ?_⟩
  exact (k.then s1 fun _ q => q).newL r1 h1 q1 hp
theorem sim_tup {t : TA} {pt : PAr} (ht : SimA N t pt) : SimE N (tTup t) (pTup pt) := by
  intro w H0 B aw ow H σ ρ Q Q' r h k
  refine ht w H0 B aw ow H σ ρ _ _ r h fun vs ds H1 r1 s1 h1 ⟨l, q1⟩ => ⟨Nat.le_trans (by rw [rpsLen h1]; exact l) (by decide), fun p hp => ?_⟩
  exact (k.then s1 fun _ q => q).newT r1 h1 q1 hp
/-! ### operators -/
def pOp (r : PR2) (a b : PEx) : PEx := fun ρ Q => a ρ fun x => b ρ fun y => r x y Q
def pUn (r : PR1) (a : PEx) : PEx := fun ρ Q => a ρ fun x => r x Q
def pCB (r : PRl) (a : PAr) : PEx := fun ρ Q => a ρ fun x => r x Q
theorem sim_op {r : R2} {q : PR2} {a b : TE} {pa pb : PEx} (hr : SimR N r q) (ha : SimE N a pa) (hb : SimE N b pb) : SimE N (tOp r a b) (pOp q pa pb) := by
  intro w H0 B aw ow H σ ρ Q Q' rr h k
  refine ha w H0 B aw ow H σ ρ _ _ rr h fun x dx H1 r1 s1 h1 q1 => ?_
  refine hb w H0 B aw ow H1 σ ρ _ _ r1 q1 fun y dy H2 r2 s2 h2 q2 => ?_
  exact hr w H0 B ow H2 σ ρ x y dx dy Q Q' r2 (rpS (s2.dh r1) h1) h2 q2 (k.then (Ex.trans s1 s2) fun _ q => q)
theorem sim_un {r : V → Hp → VK → Prop} {q : PR1} {a : TE} {pa : PEx} (hr : SimU N r q) (ha : SimE N a pa) : SimE N (tUn r a) (pUn q pa) := by
  intro w H0 B aw ow H σ ρ Q Q' rr h k
  refine ha w H0 B aw ow H σ ρ _ _ rr h fun x dx H1 r1 s1 h1 q1 => ?_
  exact hr w H0 B ow H1 σ ρ x dx Q Q' r1 h1 q1 (k.then s1 fun _ q => q)
theorem sim_cb {r : List V → Hp → VK → Prop} {q : PRl} {a : TA} {pa : PAr} (hr : SimL N r q) (ha : SimA N a pa) : SimE N (tCB r a) (pCB q pa) := by
  intro w H0 B aw ow H σ ρ Q Q' rr h k
  refine ha w H0 B aw ow H σ ρ _ _ rr h fun x dx H1 r1 s1 h1 q1 => ?_
  exact hr w H0 B ow H1 σ ρ x dx Q Q' r1 h1 q1 (k.then s1 fun _ q => q)
def pAdd : PR2 := fun x y Q => match x, y with
  | .int i, .int j => Q (.int (i + j))
  | .str a, .str b => a.length + b.length ≤ 100000 ∧ Q (.str (a ++ b))
  | .lst a, .lst b => a.length + b.length ≤ 100000 ∧ Q (.lst (a ++ b))
  | .tup a, .tup b => a.length + b.length ≤ 100000 ∧ Q (.tup (a ++ b))
  | _, _ => False
theorem sim_add : SimR N (uAdd N.K) pAdd := by
  intro w H0 B ow H σ ρ x y dx dy Q Q' r hx hy h k
  cases dx <;> cases dy <;> first | exact h.elim | skip
  · cases hx; cases hy; exact k.flat r (.int _) h
  · cases hx; cases hy; exact ⟨Nat.le_trans h.1 (by decide), k.flat r (.str _) h.2⟩
  · obtain ⟨a, xs, rfl, e1, r1⟩ := rpT hx
    obtain ⟨b, ys, rfl, e2, r2⟩ := rpT hy
    refine .inr ⟨a, b, xs, ys, rfl, rfl, Same.sqT hid_le e1, Same.sqT hid_le e2, Nat.le_trans (by rw [rpsLen r1, rpsLen r2]; exact h.1) (by decide), ?_⟩
    have ra := rpsApp r1 r2
    refine ⟨fun z => ?_, fun z1 z2 => ?_, fun _ _ p hp => k.newT r ra h.2 hp⟩
    · subst z
      have := rpsLen r1
      rw [List.length_nil] at this
      obtain rfl := List.length_eq_zero_iff.mp this.symm
      exact k.flat r hy (by simpa using h.2)
    · subst z2
      have := rpsLen r2
      rw [List.length_nil] at this
      obtain rfl := List.length_eq_zero_iff.mp this.symm
      exact k.flat r hx (by simpa using h.2)
  · obtain ⟨a, xs, rfl, e1, r1⟩ := rpL hx
    obtain ⟨b, ys, rfl, e2, r2⟩ := rpL hy
    exact .inl ⟨a, b, xs, ys, rfl, rfl, hid_le _ _ e1, hid_le _ _ e2, Nat.le_trans (by rw [rpsLen r1, rpsLen r2]; exact h.1) (by decide), fun p hp => k.newL r (rpsApp r1 r2) h.2 hp⟩
def pSub : PR2 := fun x y Q => match x, y with
  | .int i, .int j => Q (.int (i - j))
  | _, _ => False
def pMul : PR2 := fun x y Q => match x, y with
  | .int i, .int j => MulOk i j ∧ Q (.int (i * j))
  | _, _ => False
def pDiv : PR2 := fun x y Q => match x, y with
  | .int i, .int j => CDivW i j ∧ Q (.int (i / j))
  | _, _ => False
def pMod : PR2 := fun x y Q => match x, y with
  | .int i, .int j => 0 < j ∧ Q (.int (i % j))
  | _, _ => False
def pPow : PR2 := fun x y Q => match x, y with
  | .int i, .int j => CPow i j ∧ Q (.int (i ^ j.toNat))
  | _, _ => False
def pNeg : PR1 := fun x Q => match x with
  | .int i => Q (.int (-i))
  | _ => False
def pLt : PR2 := fun x y Q => match x, y with
  | .int i, .int j => Q (.bl (decide (i < j)))
  | .str i, .str j => Q (.bl (decide (i.cps.toList < j.cps.toList)))
  | .tup [.int i, .str x], .tup [.int j, .str y] => Q (.bl (if i = j then decide (x.cps.toList < y.cps.toList) else decide (i < j)))
  | _, _ => False
def pLe : PR2 := fun x y Q => match x, y with
  | .int i, .int j => Q (.bl (decide (i ≤ j)))
  | .str i, .str j => Q (.bl (!decide (j.cps.toList < i.cps.toList)))
  | _, _ => False
def pGt : PR2 := fun x y Q => match x, y with
  | .int i, .int j => Q (.bl (decide (j < i)))
  | .str i, .str j => Q (.bl (decide (j.cps.toList < i.cps.toList)))
  | _, _ => False
def pGe : PR2 := fun x y Q => match x, y with
  | .int i, .int j => Q (.bl (decide (j ≤ i)))
  | .str i, .str j => Q (.bl (!decide (i.cps.toList < j.cps.toList)))
  | _, _ => False
theorem sim_sub : SimR N uSub pSub := by
  intro w H0 B ow H σ ρ x y dx dy Q Q' r hx hy h k
  cases dx <;> cases dy <;> first | exact h.elim | skip
  cases hx; cases hy; exact k.flat r (.int _) h
theorem sim_mul : SimR N uMul pMul := by
  intro w H0 B ow H σ ρ x y dx dy Q Q' r hx hy h k
  cases dx <;> cases dy <;> first | exact h.elim | skip
  cases hx; cases hy; exact ⟨h.1, k.flat r (.int _) h.2⟩
theorem sim_div : SimR N uDiv pDiv := by
  intro w H0 B ow H σ ρ x y dx dy Q Q' r hx hy h k
  cases dx <;> cases dy <;> first | exact h.elim | skip
  cases hx; cases hy; exact ⟨h.1, k.flat r (.int _) h.2⟩
theorem sim_mod : SimR N uMod pMod := by
  intro w H0 B ow H σ ρ x y dx dy Q Q' r hx hy h k
  cases dx <;> cases dy <;> first | exact h.elim | skip
  cases hx; cases hy; exact ⟨h.1, k.flat r (.int _) h.2⟩
theorem sim_pow : SimR N uPow pPow := by
  intro w H0 B ow H σ ρ x y dx dy Q Q' r hx hy h k
  cases dx <;> cases dy <;> first | exact h.elim | skip
  cases hx; cases hy; exact ⟨h.1, k.flat r (.int _) h.2⟩
theorem sim_neg : SimU N uNeg pNeg := by
  intro w H0 B ow H σ ρ x dx Q Q' r hx h k
  cases dx <;> first | exact h.elim | skip
  cases hx; exact k.flat r (.int _) h
theorem sim_lt : SimR N (uLt N.K) pLt := by
  intro w H0 B ow H σ ρ x y dx dy Q Q' r hx hy h k
  unfold pLt at h
  split at h
  · cases hx; cases hy; exact k.flat r (.bl _) h
  · cases hx; cases hy; exact k.flat r (.bl _) h
  · obtain ⟨a, xs, rfl, e1, r1⟩ := rpT hx
    obtain ⟨b, ys, rfl, e2, r2⟩ := rpT hy
    obtain ⟨v1, w1, rfl, a1, r1⟩ := rpsC r1
    obtain ⟨v2, w2, rfl, a2, r1⟩ := rpsC r1
    obtain ⟨u1, z1, rfl, b1, r2⟩ := rpsC r2
    obtain ⟨u2, z2, rfl, b2, r2⟩ := rpsC r2
    obtain rfl := rps0 r1
    obtain rfl := rps0 r2
    cases a1; cases a2; cases b1; cases b2
    exact z_ltIS (Same.sqT hid_le e1) (Same.sqT hid_le e2) (k.flat r (.bl _) h)
  · exact h.elim
theorem sim_le : SimR N uLe pLe := by
  intro w H0 B ow H σ ρ x y dx dy Q Q' r hx hy h k
  cases dx <;> cases dy <;> first | exact h.elim | skip
  · cases hx; cases hy; exact k.flat r (.bl _) h
  · cases hx; cases hy; exact k.flat r (.bl _) h
theorem sim_gt : SimR N uGt pGt := by
  intro w H0 B ow H σ ρ x y dx dy Q Q' r hx hy h k
  cases dx <;> cases dy <;> first | exact h.elim | skip
  · cases hx; cases hy; exact k.flat r (.bl _) h
  · cases hx; cases hy; exact k.flat r (.bl _) h
theorem sim_ge : SimR N uGe pGe := by
  intro w H0 B ow H σ ρ x y dx dy Q Q' r hx hy h k
  cases dx <;> cases dy <;> first | exact h.elim | skip
  · cases hx; cases hy; exact k.flat r (.bl _) h
  · cases hx; cases hy; exact k.flat r (.bl _) h
end

/-! ### == of plain data -/
/-- == of flat things -/
def eq0 : Da → Da → Bool
  | .non, .non => true
  | .bl a, .bl b => decide (a = b)
  | .bl a, .int j => decide ((if a then 1 else 0) = j)
  | .int i, .bl b => decide (i = (if b then 1 else 0))
  | .int i, .int j => decide (i = j)
  | .str x, .str y => decide (x = y)
  | _, _ => false
def kd0 : Da → Nat
  | .bl _ => 1 | .str _ => 2 | _ => 0
/-- fields of records: values of one kind -/
def eqF1 : Da → Da → Bool
  | .tup [a, u], .tup [b, v] => eq0 a b && (decide (kd0 u = kd0 v) && eq0 u v)
  | _, _ => false
def eqF : Da → Da → Bool
  | .tup l, .tup m => (List.zipWith eqF1 l m).all id && (l.length == m.length)
  | _, _ => false
mutual
def eqD : Da → Da → Bool
  | .tup xs, .tup ys => eqDs xs ys
  | .lst xs, .lst ys => eqDs xs ys
  | .ins x ks xs, .ins y ls ys => decide (x = y) && decide (ks = ls) && (if x = "Record" then eqRs 0 xs ys else eqDs xs ys)
  | .st, .st => true
  | .ty n, .ty m => decide (n = m)
  | x, y => eq0 x y
def eqDs : List Da → List Da → Bool
  | [], [] => true
  | x :: xs, y :: ys => eqD x y && eqDs xs ys
  | [], _ :: _ => false
  | _ :: _, [] => false
/-- a record's: the third field by values of one kind -/
def eqRs : Nat → List Da → List Da → Bool
  | _, [], [] => true
  | i, x :: xs, y :: ys => (if i = 2 then eqF x y else eqD x y) && eqRs (i + 1) xs ys
  | _, [], _ :: _ => false
  | _, _ :: _, [] => false
end
def flD : Da → Bool
  | .non => true | .bl _ => true | .int _ => true | .str _ => true | _ => false
/-! what may be compared: flat things, tuples and lists place by place -/
mutual
def Cq : Nat → Da → Da → Prop
  | 0, x, y => flD x = true ∧ flD y = true
  | n + 1, .tup a, .tup b => Cqs n a b
  | n + 1, .lst a, .lst b => Cqs n a b
  | _ + 1, x, y => flD x = true ∧ flD y = true
def Cqs : Nat → List Da → List Da → Prop
  | n, x :: a, y :: b => Cq n x y ∧ Cqs n a b
  | _, _, _ => True
end
theorem Cqs.of {n : Nat} : ∀ {a b : List Da}, (∀ (i : Nat) (x y : Da), a[i]? = some x → b[i]? = some y → Cq n x y) → Cqs n a b
  | [], _, _ => by unfold Cqs; trivial
  | _ :: _, [], _ => by unfold Cqs; trivial
  | x :: a, y :: b, h => by unfold Cqs; exact ⟨h 0 x y rfl rfl, Cqs.of fun i u v hu hv => h (i + 1) u v hu hv⟩
theorem Cqs.at {n : Nat} : ∀ {a b : List Da}, Cqs n a b → ∀ (i : Nat) (x y : Da), a[i]? = some x → b[i]? = some y → Cq n x y
  | [], _, _, i, x, y, hx, _ => by cases hx
  | _ :: _, [], _, i, x, y, _, hy => by cases hy
  | u :: a, v :: b, h, i, x, y, hx, hy => by
    unfold Cqs at h
    cases i with
    | zero => cases hx; cases hy; exact h.1
    | succ i => exact Cqs.at h.2 i x y hx hy
theorem Cq.flat {n : Nat} {x y : Da} (h1 : flD x = true) (h2 : flD y = true) : Cq n x y := by
  cases n with
  | zero => unfold Cq; exact ⟨h1, h2⟩
  | succ n => cases x <;> cases y <;> first | (cases h1; done) | (cases h2; done) | (unfold Cq; exact ⟨rfl, rfl⟩)
theorem Cq.tup {n : Nat} {a b : List Da} (h : ∀ (i : Nat) (x y : Da), a[i]? = some x → b[i]? = some y → Cq n x y) : Cq (n + 1) (.tup a) (.tup b) := by unfold Cq; exact Cqs.of h
theorem Cq.lst {n : Nat} {a b : List Da} (h : ∀ (i : Nat) (x y : Da), a[i]? = some x → b[i]? = some y → Cq n x y) : Cq (n + 1) (.lst a) (.lst b) := by unfold Cq; exact Cqs.of h
theorem all_get {l : List Da} {f : Da → Bool} (h : l.all f = true) {i : Nat} {x : Da} (e : l[i]? = some x) : f x = true := List.all_eq_true.mp h x (List.mem_of_getElem? e)
theorem Cq.flats {n : Nat} {a b : List Da} (h1 : a.all flD = true) (h2 : b.all flD = true) : ∀ (i : Nat) (x y : Da), a[i]? = some x → b[i]? = some y → Cq n x y := fun i x y hx hy => Cq.flat (all_get h1 hx) (all_get h2 hy)
theorem flI {xs : List Int} : (xs.map Da.int).all flD = true := by rw [List.all_map]; exact List.all_eq_true.mpr fun _ _ => rfl
theorem flX {xs : List Str} : (xs.map Da.str).all flD = true := by rw [List.all_map]; exact List.all_eq_true.mpr fun _ _ => rfl
theorem eqDs_all : ∀ {a b : List Da}, eqDs a b = ((List.range (min a.length b.length)).all (fun i => eqD (a.getD i .non) (b.getD i .non)) && (a.length == b.length))
  | [], [] => rfl
  | [], _ :: _ => by simp [eqDs]
  | _ :: _, [] => by simp [eqDs]
  | x :: a, y :: b => by
    unfold eqDs
    rw [eqDs_all (a := a) (b := b)]
    simp only [List.length_cons, Nat.add_min_add_right, List.range_succ_eq_map, List.all_cons, List.all_map, List.getD_cons_zero, Function.comp_def, List.getD_cons_succ, Nat.succ_eq_add_one]
    rw [Bool.and_assoc]
    congr 2
    rw [Bool.eq_iff_iff, beq_iff_eq, beq_iff_eq]; omega
section
variable {K : PySem.W.Frag} {c : CEnv} {S : Option Addr} {G : Hp}
theorem flV_of {v : V} {d : Da} (h : Rp K c S G v d) (f : flD d = true) : flatV v = true := by
  cases d <;> first | (cases f; done) | (cases h; rfl)
theorem eqV_of {v u : V} {d e : Da} (h : Rp K c S G v d) (h2 : Rp K c S G u e) (f : flD d = true) (f2 : flD e = true) : eqV v u = eqD d e := by
  cases d <;> first | (cases f; done) | skip
  all_goals cases e <;> first | (cases f2; done) | skip
  all_goals cases h
  all_goals cases h2
  all_goals (simp only [eqV, eqD, eq0]; try rw [Bool.eq_iff_iff, beq_iff_eq, decide_eq_true_iff])
theorem eqB_sq {n : Nat} (ih : ∀ {x y : V} {d e : Da}, Cq n d e → Rp K c S G x d → Rp K c S G y e → EqB K G n x y (eqD d e)) {xs ys : List V} {a b : List Da} (hc : Cqs n a b) (ra : RpA K c S G xs a) (rb : RpA K c S G ys b) :
    (∀ (i : Nat) (x y : V), xs[i]? = some x → ys[i]? = some y → EqB K G n x y ((fun i => eqD (a.getD i .non) (b.getD i .non)) i)) ∧ eqDs a b = allB xs ys (fun i => eqD (a.getD i .non) (b.getD i .non)) := by
  refine ⟨fun i x y ex ey => ?_, ?_⟩
  · obtain ⟨d, ed, rd⟩ := rpsGetV ra ex
    obtain ⟨e, ee, re⟩ := rpsGetV rb ey
    have z := ih (hc.at i d e ed ee) rd re
    simp only [List.getD_eq_getElem?_getD, ed, ee]
    exact z
  · rw [eqDs_all]
    unfold allB
    rw [rpsLen ra, rpsLen rb]
theorem eqB_of : ∀ {n : Nat} {x y : V} {d e : Da}, Cq n d e → Rp K c S G x d → Rp K c S G y e → EqB K G n x y (eqD d e)
  | 0, x, y, d, e, h, hx, hy => by
    unfold Cq at h
    exact .inl ⟨flV_of hx h.1, flV_of hy h.2, (eqV_of hx hy h.1 h.2).symm⟩
  | n + 1, x, y, d, e, h, hx, hy => by
    have fl : flD d = true ∧ flD e = true → EqB K G (n + 1) x y (eqD d e) := fun z => EqB.up (Nat.zero_le _) (.inl ⟨flV_of hx z.1, flV_of hy z.2, (eqV_of hx hy z.1 z.2).symm⟩)
    have sq := fun {xs ys : List V} {a b : List Da} => eqB_sq (K := K) (c := c) (S := S) (G := G) (n := n) (fun hc hx hy => eqB_of hc hx hy) (xs := xs) (ys := ys) (a := a) (b := b)
    cases d with
    | tup a => cases e with
      | tup b =>
        unfold Cq at h
        obtain ⟨p, xs, rfl, ep, ra⟩ := rpT hx
        obtain ⟨q, ys, rfl, eq', rb⟩ := rpT hy
        obtain ⟨k1, k2⟩ := sq h ra rb
        simp only [eqD]
        exact EqB.of (.inl ⟨ep, eq'⟩) k1 k2
      | _ => (unfold Cq at h; cases h.1)
    | lst a => cases e with
      | lst b =>
        unfold Cq at h
        obtain ⟨p, xs, rfl, ep, ra⟩ := rpL hx
        obtain ⟨q, ys, rfl, eq', rb⟩ := rpL hy
        obtain ⟨k1, k2⟩ := sq h ra rb
        simp only [eqD]
        exact EqB.of (.inr ⟨SqL.of ep, SqL.of eq'⟩) k1 k2
      | _ => (unfold Cq at h; cases h.1)
    | _ => exact fl (by cases e <;> first | (unfold Cq at h; exact h) | exact h)
end
def pEq : PR2 := fun x y Q => ∃ n, n ≤ 16 ∧ Cq n x y ∧ Q (.bl (eqD x y))
def pNe : PR2 := fun x y Q => ∃ n, n ≤ 16 ∧ Cq n x y ∧ Q (.bl (!eqD x y))
section
variable {N : Cn} {w : Pw} {H0 B H H' : Hp} {ow : Ow} {σ : L2.St} {ρ : PEnv}
theorem eq_gen {K : PySem.W.Frag} {c : CEnv} {S : Option Addr} {G : Hp} {n : Nat} {x y : V} {dx dy : Da} {Q : VK} (hn : n ≤ 16) (hc : Cq n dx dy) (hx : Rp K c S G x dx) (hy : Rp K c S G y dy) : (Q (.bl (eqD dx dy)) G → uEq K x y G Q) ∧ (Q (.bl (!eqD dx dy)) G → uNe K x y G Q) := by
  by_cases f : flD dx = true ∧ flD dy = true
  · obtain ⟨f1, f2⟩ := f
    cases dx <;> first | (cases f1; done) | skip
    all_goals cases dy <;> first | (cases f2; done) | skip
    all_goals cases hx
    all_goals cases hy
    all_goals simp only [eqD, eq0]
    all_goals refine ⟨fun q => ?_, fun q => ?_⟩
    all_goals first
      | exact q
      | (refine .inl ⟨rfl, ?_⟩; rw [decide_eq_false (by intro z; cases z)]; exact q)
      | (refine .inr ⟨_, _, by first | exact .bl _ | exact .int _, by first | exact .bl _ | exact .int _, rfl, rfl, ?_⟩; simp only [PyData.eqv]; first | exact q | (rename_i a b; rw [show ((if a = true then (1 : Int) else 0) == b) = decide ((if a = true then (1 : Int) else 0) = b) by rw [Bool.eq_iff_iff, beq_iff_eq, decide_eq_true_iff]]; exact q) | (rename_i a b; rw [show (a == (if b = true then (1 : Int) else 0)) = decide (a = (if b = true then (1 : Int) else 0)) by rw [Bool.eq_iff_iff, beq_iff_eq, decide_eq_true_iff]]; exact q))
  · have sq : ∃ a b xs ys e, x = .ref a ∧ y = .ref b ∧ sameSq K G a b xs ys ∧ (∀ (i : Nat) (x y : V), xs[i]? = some x → ys[i]? = some y → EqB K G n x y (e i)) ∧ eqD dx dy = allB xs ys e := by
      cases n with
      | zero => unfold Cq at hc; exact absurd hc f
      | succ n =>
        cases dx with
        | tup a => cases dy with
          | tup b =>
            unfold Cq at hc
            obtain ⟨p, xs, rfl, ep, ra⟩ := rpT hx
            obtain ⟨q, ys, rfl, eq', rb⟩ := rpT hy
            obtain ⟨k1, k2⟩ := eqB_sq (fun hc hx hy => eqB_of hc hx hy) hc ra rb
            exact ⟨p, q, xs, ys, _, rfl, rfl, .inl ⟨ep, eq'⟩, fun i u v hu hv => .inl (k1 i u v hu hv), by simp only [eqD]; exact k2⟩
          | _ => (unfold Cq at hc; exact absurd hc f)
        | lst a => cases dy with
          | lst b =>
            unfold Cq at hc
            obtain ⟨p, xs, rfl, ep, ra⟩ := rpL hx
            obtain ⟨q, ys, rfl, eq', rb⟩ := rpL hy
            obtain ⟨k1, k2⟩ := eqB_sq (fun hc hx hy => eqB_of hc hx hy) hc ra rb
            exact ⟨p, q, xs, ys, _, rfl, rfl, .inr ⟨SqL.of ep, SqL.of eq'⟩, fun i u v hu hv => .inl (k1 i u v hu hv), by simp only [eqD]; exact k2⟩
          | _ => (unfold Cq at hc; exact absurd hc f)
        | _ => exact absurd (by cases dy <;> first | (unfold Cq at hc; exact hc) | exact hc) f
    obtain ⟨a, b, xs, ys, e, rfl, rfl, h1, h2, h3⟩ := sq
    rw [h3]
    exact ⟨fun q => .inr ⟨n, xs, ys, e, hn, h1, h2, q⟩, fun q => .inr ⟨n, xs, ys, e, hn, h1, h2, q⟩⟩
theorem sim_eq : SimR N (uEq N.K) pEq := by
  intro w H0 B ow H σ ρ x y dx dy Q Q' r hx hy h k
  obtain ⟨n, hn, hc, q⟩ := h
  exact (eq_gen hn hc (rpS hid_le hx) (rpS hid_le hy)).1 (k.flat r (.bl _) q)
theorem sim_ne : SimR N (uNe N.K) pNe := by
  intro w H0 B ow H σ ρ x y dx dy Q Q' r hx hy h k
  obtain ⟨n, hn, hc, q⟩ := h
  exact (eq_gen hn hc (rpS hid_le hx) (rpS hid_le hy)).2 (k.flat r (.bl _) q)
def isNon : Da → Bool | .non => true | _ => false
/-! ### is, in -/
def pIs : PR2 := fun x y Q => match x, y with
  | x, .non => Q (.bl (isNon x))
  | .bl a, .bl b => Q (.bl (decide (a = b)))
  | _, _ => False
def pIsNot : PR2 := fun x y Q => match x, y with
  | x, .non => Q (.bl (!isNon x))
  | .bl a, .bl b => Q (.bl (!decide (a = b)))
  | _, _ => False
theorem isNon_of {K : PySem.W.Frag} {c : CEnv} {S : Option Addr} {G : Hp} {v : V} {d : Da} (h : Rp K c S G v d) : decide (v = .non) = isNon d := by
  cases h <;> first | rfl | exact decide_eq_false (fun z => by cases z)
theorem sim_is : SimR N uIs pIs := by
  intro w H0 B ow H σ ρ x y dx dy Q Q' r hx hy h k
  have hn : ∀ q : Q' (.bl (isNon dx)), Q (.bl (decide (x = .non))) H := fun q => k.flat r (by rw [isNon_of hx]; exact .bl _) q
  cases dy with
  | non => cases hy; exact z_is (hn (by simpa [pIs] using h))
  | bl b =>
    cases hy
    cases dx <;> first | exact h.elim | skip
    cases hx; exact k.flat r (.bl _) h
  | _ => simp only [pIs] at h
theorem sim_isNot : SimR N uIsNot pIsNot := by
  intro w H0 B ow H σ ρ x y dx dy Q Q' r hx hy h k
  have hn : ∀ q : Q' (.bl (!isNon dx)), Q (.bl (!decide (x = .non))) H := fun q => k.flat r (by rw [isNon_of hx]; exact .bl _) q
  cases dy with
  | non => cases hy; exact z_isNot (hn (by simpa [pIsNot] using h))
  | bl b =>
    cases hy
    cases dx <;> first | exact h.elim | skip
    cases hx; exact k.flat r (.bl _) h
  | _ => simp only [pIsNot] at h
def inD (x : Da) (l : List Da) : Bool := l.any fun y => eqD y x
def pIn : PR2 := fun x y Q => match x, y with
  | .str i, .str j => Q (.bl (!(Builtin.Str.occurrences j i 0 j.length 1).isEmpty))
  | x, .lst l => flD x = true ∧ l.all flD = true ∧ Q (.bl (inD x l))
  | x, .tup l => flD x = true ∧ l.all flD = true ∧ Q (.bl (inD x l))
  | _, _ => False
def pNotIn : PR2 := fun x y Q => match x, y with
  | .str i, .str j => Q (.bl (!(!(Builtin.Str.occurrences j i 0 j.length 1).isEmpty)))
  | x, .lst l => flD x = true ∧ l.all flD = true ∧ Q (.bl (!inD x l))
  | x, .tup l => flD x = true ∧ l.all flD = true ∧ Q (.bl (!inD x l))
  | _, _ => False
theorem flVs_of {K : PySem.W.Frag} {c : CEnv} {S : Option Addr} {G : Hp} : ∀ {vs : List V} {ds : List Da}, RpA K c S G vs ds → ds.all flD = true → vs.all flatV = true
  | _, [], h, _ => by rw [rps0 h]; rfl
  | _, d :: ds, h, f => by
    obtain ⟨v, ws, rfl, a, b⟩ := rpsC h
    rw [List.all_cons, Bool.and_eq_true] at f ⊢
    exact ⟨flV_of a f.1, flVs_of b f.2⟩
theorem inV_of {K : PySem.W.Frag} {c : CEnv} {S : Option Addr} {G : Hp} {v : V} {d : Da} (h : Rp K c S G v d) (f : flD d = true) : ∀ {vs : List V} {ds : List Da}, RpA K c S G vs ds → ds.all flD = true → inV v vs = inD d ds
  | _, [], r, _ => by rw [rps0 r]; rfl
  | _, e :: ds, r, g => by
    obtain ⟨u, ws, rfl, a, b⟩ := rpsC r
    rw [List.all_cons, Bool.and_eq_true] at g
    show (eqV u v || inV v ws) = (eqD e d || inD d ds)
    rw [eqV_of a h g.1 f, inV_of h f b g.2]
theorem sim_in : SimR N (uIn N.K) pIn := by
  intro w H0 B ow H σ ρ x y dx dy Q Q' r hx hy h k
  cases dy with
  | str j => cases dx <;> first | exact h.elim | (cases hx; cases hy; exact k.flat r (.bl _) h)
  | lst l =>
    have h : flD dx = true ∧ l.all flD = true ∧ Q' (.bl (inD dx l)) := by cases dx <;> exact h
    obtain ⟨a, ys, rfl, e, rr⟩ := rpL hy
    exact z_in (.inl (SqL.of (hid_le _ _ e))) (flV_of hx h.1) (flVs_of rr h.2.1) (by rw [inV_of hx h.1 rr h.2.1]; exact k.flat r (.bl _) h.2.2)
  | tup l =>
    have h : flD dx = true ∧ l.all flD = true ∧ Q' (.bl (inD dx l)) := by cases dx <;> exact h
    obtain ⟨a, ys, rfl, e, rr⟩ := rpT hy
    exact z_in (.inr (Same.sqT hid_le e)) (flV_of hx h.1) (flVs_of rr h.2.1) (by rw [inV_of hx h.1 rr h.2.1]; exact k.flat r (.bl _) h.2.2)
  | _ => cases dx <;> exact h.elim
theorem sim_notIn : SimR N (uNotIn N.K) pNotIn := by
  intro w H0 B ow H σ ρ x y dx dy Q Q' r hx hy h k
  cases dy with
  | str j => cases dx <;> first | exact h.elim | (cases hx; cases hy; exact k.flat r (.bl _) h)
  | lst l =>
    have h : flD dx = true ∧ l.all flD = true ∧ Q' (.bl (!inD dx l)) := by cases dx <;> exact h
    obtain ⟨a, ys, rfl, e, rr⟩ := rpL hy
    exact z_notIn (.inl (SqL.of (hid_le _ _ e))) (flV_of hx h.1) (flVs_of rr h.2.1) (by rw [inV_of hx h.1 rr h.2.1]; exact k.flat r (.bl _) h.2.2)
  | tup l =>
    have h : flD dx = true ∧ l.all flD = true ∧ Q' (.bl (!inD dx l)) := by cases dx <;> exact h
    obtain ⟨a, ys, rfl, e, rr⟩ := rpT hy
    exact z_notIn (.inr (Same.sqT hid_le e)) (flV_of hx h.1) (flVs_of rr h.2.1) (by rw [inV_of hx h.1 rr h.2.1]; exact k.flat r (.bl _) h.2.2)
  | _ => cases dx <;> exact h.elim
/-! ### items, built-ins -/
def pIx : PR2 := fun x y Q => match x, y with
  | .lst l, .int i => ∃ d, atI l i = some d ∧ Q d
  | .tup l, .int i => ∃ d, atI l i = some d ∧ Q d
  | .str z, .int i => z.length ≤ 100000 ∧ ∃ ch, atI z.cps.toList i = some ch ∧ Q (.str ⟨#[ch]⟩)
  | _, _ => False
theorem sim_ix : SimR N (uIx N.K) pIx := by
  intro w H0 B ow H σ ρ x y dx dy Q Q' r hx hy h k
  cases dx <;> cases dy <;> first | exact h.elim | skip
  · cases hx; cases hy
    obtain ⟨hz, ch, e, q⟩ := h
    exact ⟨ch, Nat.le_trans hz (by decide), e, k.flat r (.str _) q⟩
  · obtain ⟨a, ys, rfl, e, rr⟩ := rpT hx
    cases hy
    obtain ⟨d, ed, q⟩ := h
    obtain ⟨v, ev, rv⟩ := rpsAt rr ed
    exact z_ix (.inr (Same.sqT hid_le e)) ev (k.flat r rv q)
  · obtain ⟨a, ys, rfl, e, rr⟩ := rpL hx
    cases hy
    obtain ⟨d, ed, q⟩ := h
    obtain ⟨v, ev, rv⟩ := rpsAt rr ed
    exact z_ix (.inl (SqL.of (hid_le _ _ e))) ev (k.flat r rv q)
def pLen : PRl := fun ds Q => match ds with
  | [.lst l] => Q (.int l.length)
  | [.tup l] => Q (.int l.length)
  | [.str z] => z.length ≤ 100000 ∧ Q (.int z.length)
  | _ => False
theorem rps1 {K : PySem.W.Frag} {c : CEnv} {S : Option Addr} {G : Hp} {vs : List V} {d : Da} (h : RpA K c S G vs [d]) : ∃ v, vs = [v] ∧ Rp K c S G v d := by
  obtain ⟨v, ws, rfl, a, b⟩ := rpsC h
  obtain rfl := rps0 b
  exact ⟨v, rfl, a⟩
theorem rps2 {K : PySem.W.Frag} {c : CEnv} {S : Option Addr} {G : Hp} {vs : List V} {d e : Da} (h : RpA K c S G vs [d, e]) : ∃ v u, vs = [v, u] ∧ Rp K c S G v d ∧ Rp K c S G u e := by
  obtain ⟨v, ws, rfl, a, b⟩ := rpsC h
  obtain ⟨u, ws2, rfl, b2, z⟩ := rpsC b
  obtain rfl := rps0 z
  exact ⟨v, u, rfl, a, b2⟩
theorem sim_len : SimL N (uLen N.K) pLen := by
  intro w H0 B ow H σ ρ xs ds Q Q' r hx h k
  unfold pLen at h
  split at h
  · obtain ⟨v, rfl, a⟩ := rps1 hx
    obtain ⟨p, ys, rfl, e, rr⟩ := rpL a
    exact z_len (.inl (SqL.of (hid_le _ _ e))) (by rw [rpsLen rr]; exact k.flat r (.int _) h)
  · obtain ⟨v, rfl, a⟩ := rps1 hx
    obtain ⟨p, ys, rfl, e, rr⟩ := rpT a
    exact z_len (.inr (Same.sqT hid_le e)) (by rw [rpsLen rr]; exact k.flat r (.int _) h)
  · obtain ⟨v, rfl, a⟩ := rps1 hx
    cases a
    exact ⟨Nat.le_trans h.1 (by decide), k.flat r (.int _) h.2⟩
  · exact h.elim
def pInt : PRl := fun ds Q => match ds with
  | [.int i] => Q (.int i)
  | [.bl b] => Q (.int (if b then 1 else 0))
  | _ => False
theorem sim_intB : SimL N uInt pInt := by
  intro w H0 B ow H σ ρ xs ds Q Q' r hx h k
  unfold pInt at h
  split at h
  · obtain ⟨v, rfl, a⟩ := rps1 hx; cases a; exact k.flat r (.int _) h
  · obtain ⟨v, rfl, a⟩ := rps1 hx; cases a; exact k.flat r (.int _) h
  · exact h.elim
def pMax : PRl := fun ds Q => match ds with
  | [.int i, .int j] => Q (.int (if j > i then j else i))
  | _ => False
def pMin : PRl := fun ds Q => match ds with
  | [.int i, .int j] => Q (.int (if j < i then j else i))
  | _ => False
def pAbs : PRl := fun ds Q => match ds with
  | [.int i] => Q (.int (if i < 0 then -i else i))
  | _ => False
theorem sim_max : SimL N uMax pMax := by
  intro w H0 B ow H σ ρ xs ds Q Q' r hx h k
  unfold pMax at h
  split at h
  · obtain ⟨v, u, rfl, a, b⟩ := rps2 hx; cases a; cases b; exact k.flat r (.int _) h
  · exact h.elim
theorem sim_min : SimL N uMin pMin := by
  intro w H0 B ow H σ ρ xs ds Q Q' r hx h k
  unfold pMin at h
  split at h
  · obtain ⟨v, u, rfl, a, b⟩ := rps2 hx; cases a; cases b; exact k.flat r (.int _) h
  · exact h.elim
theorem sim_abs : SimL N uAbs pAbs := by
  intro w H0 B ow H σ ρ xs ds Q Q' r hx h k
  unfold pAbs at h
  split at h
  · obtain ⟨v, rfl, a⟩ := rps1 hx; cases a; exact k.flat r (.int _) h
  · exact h.elim
def pList : PRl := fun ds Q => match ds with
  | [.lst l] => Q (.lst l)
  | [.tup l] => Q (.lst l)
  | _ => False
theorem sim_list : SimL N (uList N.K) pList := by
  intro w H0 B ow H σ ρ xs ds Q Q' r hx h k
  unfold pList at h
  split at h
  · obtain ⟨v, rfl, a⟩ := rps1 hx
    obtain ⟨p, ys, rfl, e, rr⟩ := rpL a
    exact z_list (.inl (SqL.of (hid_le _ _ e))) fun l hl => k.newL r rr h hl
  · obtain ⟨v, rfl, a⟩ := rps1 hx
    obtain ⟨p, ys, rfl, e, rr⟩ := rpT a
    exact z_list (.inr (Same.sqT hid_le e)) fun l hl => k.newL r rr h hl
  · exact h.elim
def pTuple : PRl := fun ds Q => match ds with
  | [.lst l] => Q (.tup l)
  | [.tup l] => Q (.tup l)
  | _ => False
theorem sim_tuple : SimL N (uTuple N.K) pTuple := by
  intro w H0 B ow H σ ρ xs ds Q Q' r hx h k
  unfold pTuple at h
  split at h
  · obtain ⟨v, rfl, a⟩ := rps1 hx
    obtain ⟨p, ys, rfl, e, rr⟩ := rpL a
    exact z_tupleL (SqL.of (hid_le _ _ e)) fun l hl => k.newT r rr h hl
  · obtain ⟨v, rfl, a⟩ := rps1 hx
    have a' := a
    obtain ⟨p, ys, rfl, e, rr⟩ := rpT a
    exact z_tupleT (Same.sqT hid_le e) (k.flat r a' h)
  · exact h.elim
def pSum : PRl := fun ds Q => match ds with
  | [.lst l] => ∃ ns : List Int, l = ns.map Da.int ∧ Q (.int ns.sum)
  | _ => False
theorem sim_sum : SimL N (rSum N.K) pSum := by
  intro w H0 B ow H σ ρ xs ds Q Q' r hx h k
  unfold pSum at h
  split at h
  · obtain ⟨v, rfl, a⟩ := rps1 hx
    obtain ⟨ns, rfl, q⟩ := h
    obtain ⟨p, ys, rfl, e, rr⟩ := rpL a
    obtain rfl := rpsI rr
    exact ⟨p, ns, rfl, SqL.of (hid_le _ _ e), k.flat r (.int _) q⟩
  · exact h.elim
def pMax1 : PRl := fun ds Q => match ds with
  | [.lst l] => ∃ ns : List Int, l = ns.map Da.int ∧ 0 < ns.length ∧ ∀ m, m ∈ ns → (∀ y, y ∈ ns → y ≤ m) → Q (.int m)
  | _ => False
def pMin1 : PRl := fun ds Q => match ds with
  | [.lst l] => ∃ ns : List Int, l = ns.map Da.int ∧ 0 < ns.length ∧ ∀ m, m ∈ ns → (∀ y, y ∈ ns → m ≤ y) → Q (.int m)
  | _ => False
theorem sim_max1 : SimL N (rMax N.K) pMax1 := by
  intro w H0 B ow H σ ρ xs ds Q Q' r hx h k
  unfold pMax1 at h
  split at h
  · obtain ⟨v, rfl, a⟩ := rps1 hx
    obtain ⟨ns, rfl, hl, q⟩ := h
    obtain ⟨p, ys, rfl, e, rr⟩ := rpL a
    obtain rfl := rpsI rr
    exact ⟨p, ns, rfl, SqL.of (hid_le _ _ e), hl, fun m h1 h2 => k.flat r (.int _) (q m h1 h2)⟩
  · exact h.elim
theorem sim_min1 : SimL N (rMin N.K) pMin1 := by
  intro w H0 B ow H σ ρ xs ds Q Q' r hx h k
  unfold pMin1 at h
  split at h
  · obtain ⟨v, rfl, a⟩ := rps1 hx
    obtain ⟨ns, rfl, hl, q⟩ := h
    obtain ⟨p, ys, rfl, e, rr⟩ := rpL a
    obtain rfl := rpsI rr
    exact ⟨p, ns, rfl, SqL.of (hid_le _ _ e), hl, fun m h1 h2 => k.flat r (.int _) (q m h1 h2)⟩
  · exact h.elim
def pOrd : PRl := fun ds Q => match ds with
  | [.str x] => x.length = 1 ∧ Q (.int (x.cps.getD 0 0 : Nat))
  | _ => False
theorem sim_ord : SimL N uOrd pOrd := by
  intro w H0 B ow H σ ρ xs ds Q Q' r hx h k
  unfold pOrd at h
  split at h
  · obtain ⟨v, rfl, a⟩ := rps1 hx; cases a; exact ⟨_, rfl, h.1, k.flat r (.int _) h.2⟩
  · exact h.elim
def pStr : PRl := fun ds Q => match ds with
  | [.int i] => i.natAbs.log2 < 1920 ∧ Q (.str (toString i))
  | [.str x] => Q (.str x)
  | _ => False
theorem sim_strB : SimL N uStr pStr := by
  intro w H0 B ow H σ ρ xs ds Q Q' r hx h k
  unfold pStr at h
  split at h
  · obtain ⟨v, rfl, a⟩ := rps1 hx; cases a; exact ⟨h.1, k.flat r (.str _) h.2⟩
  · obtain ⟨v, rfl, a⟩ := rps1 hx; cases a; exact k.flat r (.str _) h
  · exact h.elim
/-! ### isinstance -/
def tyN : Da → String
  | .non => "NoneType" | .bl _ => "bool" | .int _ => "int" | .str _ => "str" | .tup _ => "tuple" | .lst _ => "list" | _ => ""
def isTy (n : String) (x : Da) : Bool := if n = "int" then (match x with | .int _ => true | .bl _ => true | _ => false) else decide (tyN x = n)
def okTy : Da → Bool
  | .non => true | .bl _ => true | .int _ => true | .str _ => true | .tup _ => true | .lst _ => true | _ => false
def pIsi : PRl := fun ds Q => match ds with
  | [x, .ty n] => okTy x = true ∧ (n = "int" ∨ n = "bool" ∨ n = "str" ∨ n = "tuple" ∨ n = "list") ∧ Q (.bl (isTy n x))
  | _ => False
theorem tyX_of {K : PySem.W.Frag} {c : CEnv} {S : Option Addr} {G : Hp} {v : V} {d : Da} (h : Rp K c S G v d) (f : okTy d = true) : TyX K G v (.type (tyN d)) := by
  cases d <;> first | (cases f; done) | skip
  · cases h; exact .base .non
  · cases h; exact .base (.bl _)
  · cases h; exact .base (.int _)
  · cases h; exact .base (.str _)
  · obtain ⟨a, xs, rfl, e, _⟩ := rpT h
    rcases e with (e | ⟨o, e⟩) | ⟨o, its, n, e, hc, _⟩
    · exact .base (.tup e)
    · exact .fTuple e
    · exact .kTuple e hc
  · obtain ⟨a, xs, rfl, e, _⟩ := rpL h
    exact .base (.lst e)
theorem kitTy {K : PySem.W.Frag} {d : Da} (f : okTy d = true) {n : String} (h : n = "int" ∨ n = "bool" ∨ n = "str" ∨ n = "tuple" ∨ n = "list") : PySem.W.kitOne K (.type (tyN d)) (.type n) = some (isTy n d) := by
  cases d <;> first | (cases f; done) | skip
  all_goals (rcases h with rfl | rfl | rfl | rfl | rfl <;> rfl)
theorem sim_isi : SimL N (uIsi N.K) pIsi := by
  intro w H0 B ow H σ ρ xs ds Q Q' r hx h k
  unfold pIsi at h
  split at h
  · obtain ⟨v, u, rfl, a, b⟩ := rps2 hx
    cases b
    exact z_isi (.ty _) (tyX_of (rpS hid_le a) h.1) (kitTy h.1 h.2.1) (k.flat r (.bl _) h.2.2)
  · exact h.elim
/-- isinstance(x, an own class) -/
def isC1 (x : Str) (d : Da) (Q : Da → Prop) : Prop := match d with
  | .ins y _ _ => Q (.bl (SUB y x))
  | d => okTy d = true ∧ Q (.bl false)
def pIsC (x : Str) (a : PEx) : PEx := fun ρ Q => a ρ fun d => isC1 x d Q
theorem sim_isC {x : Str} {t : TE} {p : PEx} (h : SimE N t p) : SimE N (tCB (uIsi N.K) (tCons t (tCons (tCls N.K N.c x) tNil))) (pIsC x p) := by
  intro w H0 B aw ow H σ ρ Q Q' r z k
  refine h w H0 B aw ow H σ ρ _ _ r z fun v d H1 r1 x1 h1 q1 => ?_
  intro I
  cases d with
  | ins y ks l =>
    obtain ⟨p, dx, ys, rfl, ok, e, _, _⟩ := rpO h1
    exact z_isIns I ok (hid_le _ _ e) (k _ _ H1 r1 x1 (.bl _) q1)
  | _ =>
    refine z_isi (.own _) (tyX_of (rpS hid_le h1) q1.1) (I.ki _ ?_) (k _ _ H1 r1 x1 (.bl _) q1.2)
    first | (cases q1.1; done) | (with_unfolding_all (show List.contains _ "NoneType" = true); decide) | (with_unfolding_all (show List.contains _ "bool" = true); decide) | (with_unfolding_all (show List.contains _ "int" = true); decide) | (with_unfolding_all (show List.contains _ "str" = true); decide) | (with_unfolding_all (show List.contains _ "tuple" = true); decide) | (with_unfolding_all (show List.contains _ "list" = true); decide)
end

/-! ### truth, tests -/
def truD : Da → Bool → Prop
  | .non, k => k = false
  | .bl b, k => k = b
  | .int i, k => k = (i != 0)
  | .str y, k => y.length ≤ 100000 ∧ k = ((y.length : Int) != 0)
  | .lst l, k => k = !l.isEmpty
  | .tup l, k => k = !l.isEmpty
  | _, _ => False
def pTest (p : PEx) : PTe := fun ρ Q => p ρ fun d => ∃ b, d = .bl b ∧ Q b
def pTru (p : PEx) : PTe := fun ρ Q => p ρ fun d => ∃ b, truD d b ∧ Q b
def pAnd (t u : PTe) : PTe := fun ρ Q => t ρ fun b => if b = true then u ρ Q else Q false
def pOr (t u : PTe) : PTe := fun ρ Q => t ρ fun b => if b = true then Q true else u ρ Q
def pNot (t : PTe) : PTe := fun ρ Q => t ρ fun b => Q (!b)
def pAndV (a b : PEx) : PEx := fun ρ Q => a ρ fun x => ∃ k, x = .bl k ∧ if k = true then b ρ Q else Q (.bl false)
def pOrV (a b : PEx) : PEx := fun ρ Q => a ρ fun x => ∃ k, x = .bl k ∧ if k = true then Q (.bl true) else b ρ Q
def pNotV (a : PEx) : PEx := fun ρ Q => a ρ fun x => ∃ k, x = .bl k ∧ Q (.bl (!k))
def pIf (t : PTe) (a b : PEx) : PEx := fun ρ Q => t ρ fun k => if k = true then a ρ Q else b ρ Q
def pChain (r r' : PR2) (a b e : PEx) : PEx := fun ρ Q => a ρ fun x => b ρ fun y => r x y fun z => ∃ k, z = .bl k ∧ if k = true then e ρ fun u => r' y u Q else Q (.bl false)
section
variable {N : Cn} {w : Pw} {H0 B H H' : Hp} {ow : Ow} {σ : L2.St} {ρ : PEnv}
theorem PostT.then {Q' Q2 : Bool → Prop} {Q : Bool → Hp → Prop} (k : PostT N w H0 B ow H σ ρ Q' Q) (s : Ex w.S H H') (i : ∀ d, Q2 d → Q' d) : PostT N w H0 B ow H' σ ρ Q2 Q := fun v H2 r s2 q => k v H2 r (Ex.trans s s2) (i v q)
theorem Rel.x0 (r : Rel N.K N.c w H0 B ow H σ ρ) : Ex w.S H H := r.exOf (Same.refl _)
theorem sim_test {t : TE} {p : PEx} (h : SimE N t p) : SimT N (tTest t) (pTest p) := by
  intro w H0 B aw ow H σ ρ Q Q' r q k
  refine h w H0 B aw ow H σ ρ _ _ r q fun v d H1 r1 s1 h1 ⟨b, e, q1⟩ => ?_
  subst e; cases h1
  exact ⟨b, rfl, k b H1 r1 s1 q1⟩
theorem truV_of {K : PySem.W.Frag} {c : CEnv} {S : Option Addr} {G : Hp} {v : V} {d : Da} {b : Bool} (h : Rp K c S G v d) (t : truD d b) : TruV K v G b := by
  cases d with
  | non => cases h; exact t
  | bl _ => cases h; exact t
  | int _ => cases h; exact t
  | str _ => cases h; exact ⟨Nat.le_trans t.1 (by decide), t.2⟩
  | lst l =>
    obtain ⟨a, xs, rfl, e, rr⟩ := rpL h
    have := rpsLen rr
    refine .inl ⟨xs, SqL.of e, ?_⟩
    rw [show b = !l.isEmpty from t]
    cases xs <;> cases l <;> first | rfl | (simp at this)
  | tup l =>
    obtain ⟨a, xs, rfl, e, rr⟩ := rpT h
    have := rpsLen rr
    refine .inr (.inl ⟨xs, e, ?_⟩)
    rw [show b = !l.isEmpty from t]
    cases xs <;> cases l <;> first | rfl | (simp at this)
  | _ => exact (show False from t).elim
theorem sim_tru {t : TE} {p : PEx} (h : SimE N t p) : SimT N (tTru N.K t) (pTru p) := by
  intro w H0 B aw ow H σ ρ Q Q' r q k
  refine h w H0 B aw ow H σ ρ _ _ r q fun v d H1 r1 s1 h1 ⟨b, e, q1⟩ => ?_
  exact ⟨b, truV_of (rpS hid_le h1) e, k b H1 r1 s1 q1⟩
theorem sim_and {t u : TT} {p q : PTe} (h : SimT N t p) (h' : SimT N u q) : SimT N (tAnd t u) (pAnd p q) := by
  intro w H0 B aw ow H σ ρ Q Q' r z k
  refine h w H0 B aw ow H σ ρ _ _ r z fun b H1 r1 s1 q1 => ?_
  cases b with
  | true => exact z_iteT (h' w H0 B aw ow H1 σ ρ _ _ r1 (by simpa using q1) (k.then s1 fun _ q => q))
  | false => exact z_iteF (k false H1 r1 s1 (by simpa using q1))
theorem sim_or {t u : TT} {p q : PTe} (h : SimT N t p) (h' : SimT N u q) : SimT N (tOr t u) (pOr p q) := by
  intro w H0 B aw ow H σ ρ Q Q' r z k
  refine h w H0 B aw ow H σ ρ _ _ r z fun b H1 r1 s1 q1 => ?_
  cases b with
  | true => exact z_iteT (k true H1 r1 s1 (by simpa using q1))
  | false => exact z_iteF (h' w H0 B aw ow H1 σ ρ _ _ r1 (by simpa using q1) (k.then s1 fun _ q => q))
theorem sim_not {t : TT} {p : PTe} (h : SimT N t p) : SimT N (tNot t) (pNot p) := by
  intro w H0 B aw ow H σ ρ Q Q' r z k
  exact h w H0 B aw ow H σ ρ _ _ r z fun b H1 r1 s1 q1 => k (!b) H1 r1 s1 q1
theorem sim_andV {t u : TE} {p q : PEx} (h : SimE N t p) (h' : SimE N u q) : SimE N (tAndV t u) (pAndV p q) := by
  intro w H0 B aw ow H σ ρ Q Q' r z k
  refine h w H0 B aw ow H σ ρ _ _ r z fun v d H1 r1 s1 h1 ⟨b, e, q1⟩ => ?_
  subst e; cases h1
  refine ⟨b, rfl, ?_⟩
  cases b with
  | true => exact z_iteT (h' w H0 B aw ow H1 σ ρ _ _ r1 (by simpa using q1) (k.then s1 fun _ q => q))
  | false => exact z_iteF (k _ _ H1 r1 s1 (.bl _) (by simpa using q1))
theorem sim_orV {t u : TE} {p q : PEx} (h : SimE N t p) (h' : SimE N u q) : SimE N (tOrV t u) (pOrV p q) := by
  intro w H0 B aw ow H σ ρ Q Q' r z k
  refine h w H0 B aw ow H σ ρ _ _ r z fun v d H1 r1 s1 h1 ⟨b, e, q1⟩ => ?_
  subst e; cases h1
  refine ⟨b, rfl, ?_⟩
  cases b with
  | true => exact z_iteT (k _ _ H1 r1 s1 (.bl _) (by simpa using q1))
  | false => exact z_iteF (h' w H0 B aw ow H1 σ ρ _ _ r1 (by simpa using q1) (k.then s1 fun _ q => q))
theorem sim_notV {t : TE} {p : PEx} (h : SimE N t p) : SimE N (tNotV t) (pNotV p) := by
  intro w H0 B aw ow H σ ρ Q Q' r z k
  refine h w H0 B aw ow H σ ρ _ _ r z fun v d H1 r1 s1 h1 ⟨b, e, q1⟩ => ?_
  subst e; cases h1
  exact ⟨b, rfl, k _ _ H1 r1 s1 (.bl _) q1⟩
theorem sim_if {t : TT} {a b : TE} {p : PTe} {pa pb : PEx} (h : SimT N t p) (ha : SimE N a pa) (hb : SimE N b pb) : SimE N (tIf t a b) (pIf p pa pb) := by
  intro w H0 B aw ow H σ ρ Q Q' r z k
  refine h w H0 B aw ow H σ ρ _ _ r z fun b H1 r1 s1 q1 => ?_
  cases b with
  | true => exact z_iteT (ha w H0 B aw ow H1 σ ρ _ _ r1 (by simpa using q1) (k.then s1 fun _ q => q))
  | false => exact z_iteF (hb w H0 B aw ow H1 σ ρ _ _ r1 (by simpa using q1) (k.then s1 fun _ q => q))
theorem sim_chain {r r' : R2} {q q' : PR2} {a b e : TE} {pa pb pe : PEx} (hr : SimR N r q) (hr' : SimR N r' q') (ha : SimE N a pa) (hb : SimE N b pb) (he : SimE N e pe) : SimE N (tChain r r' a b e) (pChain q q' pa pb pe) := by
  intro w H0 B aw ow H σ ρ Q Q' rr h k
  refine ha w H0 B aw ow H σ ρ _ _ rr h fun x dx H1 r1 s1 h1 q1 => ?_
  refine hb w H0 B aw ow H1 σ ρ _ _ r1 q1 fun y dy H2 r2 s2 h2 q2 => ?_
  refine hr w H0 B ow H2 σ ρ x y dx dy _ _ r2 (rpS (s2.dh r1) h1) h2 q2 fun z dz H3 r3 s3 h3 ⟨kk, e3, q3⟩ => ?_
  subst e3; cases h3
  refine ⟨kk, rfl, ?_⟩
  cases kk with
  | true =>
    refine z_iteT (he w H0 B aw ow H3 σ ρ _ _ r3 (by simpa using q3) fun u du H4 r4 s4 h4 q4 => ?_)
    exact hr' w H0 B ow H4 σ ρ y u dy du _ _ r4 (rpS ((Ex.trans s3 s4).dh r2) h2) h4 q4 (k.then (Ex.trans s1 (Ex.trans s2 (Ex.trans s3 s4))) fun _ q => q)
  | false => exact z_iteF (k _ _ H3 r3 (Ex.trans s1 (Ex.trans s2 s3)) (.bl _) (by simpa using q3))
/-! ### fields -/
def pFld (a : PEx) (f : Str) : PEx := fun ρ Q => a ρ fun d => ∃ x ks l y, d = .ins x ks l ∧ (ks.zip l).lookup f = some y ∧ Q y
theorem zip_lookup {K : PySem.W.Frag} {c : CEnv} {S : Option Addr} {G : Hp} {f : Str} {y : Da} : ∀ {ks : List Str} {l : List Da} {vs : List V}, RpA K c S G vs l → (ks.zip l).lookup f = some y → ks.contains f = true ∧ ∃ v, (ks.zip vs).lookup f = some v ∧ Rp K c S G v y
  | [], l, vs, _, h => by rw [List.zip_nil_left] at h; cases h
  | k :: ks, [], vs, _, h => by rw [List.zip_nil_right] at h; cases h
  | k :: ks, d :: l, vs, r, h => by
    obtain ⟨v, ws, rfl, a, b⟩ := rpsC r
    rw [List.zip_cons_cons, List.lookup_cons] at h ⊢
    by_cases e : (f == k) = true
    · rw [e] at h ⊢
      cases h
      exact ⟨by rw [List.contains_cons, e]; rfl, v, rfl, a⟩
    · have e : (f == k) = false := by simpa using e
      rw [e] at h ⊢
      obtain ⟨h1, u, h2, h3⟩ := zip_lookup b h
      exact ⟨by rw [List.contains_cons, h1, Bool.or_true], u, h2, h3⟩
theorem zip_lookup0 {f : Str} : ∀ {ks : List Str} {vs : List V}, ks.contains f = false → (ks.zip vs).lookup f = none
  | [], _, _ => by rw [List.zip_nil_left]; rfl
  | k :: ks, [], _ => by rw [List.zip_nil_right]; rfl
  | k :: ks, v :: vs, h => by
    rw [List.contains_cons, Bool.or_eq_false_iff] at h
    rw [List.zip_cons_cons, List.lookup_cons, h.1]
    exact zip_lookup0 h.2
theorem sim_fld {a : TE} {p : PEx} {f : Str} (h : SimE N a p) : SimE N (tFld N.K a f) (pFld p f) := by
  intro w H0 B aw ow H σ ρ Q Q' r z k
  refine h w H0 B aw ow H σ ρ _ _ r z fun v d H1 r1 s1 h1 ⟨x, ks, l, y, e, lk, q⟩ => ?_
  subst e
  obtain ⟨p, dx, xs, rfl, ok, e, hl, ra⟩ := rpO h1
  obtain ⟨hc, u, lu, ru⟩ := zip_lookup ra lk
  exact z_fld ok (hid_le _ _ e) lu hc (k _ _ H1 r1 s1 ru q)
/-! ### slices -/
abbrev POp := PEnv → (Option Int → Prop) → Prop
def SimO (N : Cn) (t : TO) (p : POp) : Prop := ∀ w H0 B, AdW N w H0 B → ∀ ow H σ ρ Q (Q' : Option Int → Prop), Rel N.K N.c w H0 B ow H σ ρ → p ρ Q' → (∀ i H', Rel N.K N.c w H0 B ow H' σ ρ → Ex w.S H H' → Q' i → Q i H') → t σ H Q
def pNoPart : POp := fun _ Q => Q none
def pPart (a : PEx) : POp := fun ρ Q => a ρ fun d => ∃ i, d = .int i ∧ Q (some i)
theorem sim_noPart : SimO N tNoPart pNoPart := fun w H0 B aw ow H σ ρ Q Q' r h k => k none H r r.x0 h
theorem sim_part {a : TE} {p : PEx} (h : SimE N a p) : SimO N (tPart a) (pPart p) := by
  intro w H0 B aw ow H σ ρ Q Q' r z k
  refine h w H0 B aw ow H σ ρ _ _ r z fun v d H1 r1 s1 h1 ⟨i, e, q⟩ => ?_
  subst e; cases h1
  exact ⟨i, rfl, k _ H1 r1 s1 q⟩
def cutD (xs : List Da) (lo hi : Option Int) : List Da := (xs.drop (HT.sIx xs.length 0 lo)).take (HT.sIx xs.length xs.length hi - HT.sIx xs.length 0 lo)
def slD (d : Da) (lo hi : Option Int) (Q : Da → Prop) : Prop := match d with
  | .lst xs => Q (.lst (cutD xs lo hi))
  | .tup xs => Q (.tup (cutD xs lo hi))
  | .str z => z.length ≤ 100000 ∧ Q (.str (cutS z lo hi))
  | _ => False
def pSl (a : PEx) (l h : POp) : PEx := fun ρ Q => a ρ fun d => l ρ fun lo => h ρ fun hi => slD d lo hi Q
theorem rps_cut {K : PySem.W.Frag} {c : CEnv} {S : Option Addr} {G : Hp} {vs : List V} {l : List Da} {lo hi : Option Int} (r : RpA K c S G vs l) : RpA K c S G (cutV vs lo hi) (cutD l lo hi) := by
  unfold cutV cutD
  rw [rpsLen r]
  exact rpsTake _ (rpsDrop _ r)
theorem sim_sl {a : TE} {tl th : TO} {p : PEx} {pl ph : POp} (ha : SimE N a p) (hl : SimO N tl pl) (hh : SimO N th ph) : SimE N (tSl (uSl N.K) a tl th) (pSl p pl ph) := by
  intro w H0 B aw ow H σ ρ Q Q' r z k
  refine ha w H0 B aw ow H σ ρ _ _ r z fun v d H1 r1 s1 h1 q1 => ?_
  refine hl w H0 B aw ow H1 σ ρ _ _ r1 q1 fun lo H2 r2 s2 q2 => ?_
  refine hh w H0 B aw ow H2 σ ρ _ _ r2 q2 fun hi H3 r3 s3 q3 => ?_
  have h3 := rpS ((Ex.trans s2 s3).dh r1) h1
  have k3 := k.then (Ex.trans s1 (Ex.trans s2 s3)) fun _ q => q
  cases d <;> first | exact q3.elim | skip
  · cases h3; exact ⟨Nat.le_trans q3.1 (by decide), k3.flat r3 (.str _) q3.2⟩
  · have h3' := h3
    obtain ⟨p, xs, rfl, e, rr⟩ := rpT h3
    refine .inr ⟨p, xs, rfl, Same.sqT hid_le e, fun hw => ?_, fun _ l hl => k3.newT r3 (rps_cut rr) q3 hl⟩
    refine k3.flat r3 h3' ?_
    rename_i ds
    have : cutD ds lo hi = ds := by
      unfold cutD
      rw [← rpsLen rr, hw.1, hw.2, List.drop_zero, Nat.sub_zero, rpsLen rr, List.take_length]
    rw [← this]; exact q3
  · obtain ⟨p, xs, rfl, e, rr⟩ := rpL h3
    exact z_slL (SqL.of (hid_le _ _ e)) fun l hl => k3.newL r3 (rps_cut rr) q3 hl
/-! ### calls -/
def SpSim (K : PySem.W.Frag) (c : CEnv) (sp : Sp) (ps : PSp) : Prop := ∀ (S : Option (Addr × Addr)) (O : List Addr) (H : Hp) (vs : List V) (ds : List Da) (Q : VK) (E : XK) (Q' : Da → Prop) (E' : Str → Prop),
  Occ H O → (∀ st L, S = some (st, L) → Draw H st L ∧ st ∈ O) → RpA K c (S.map (·.1)) (hid H O) vs ds → ps ds Q' E' → (∀ v d H', Ex S H H' → Rp K c (S.map (·.1)) (hid H' O) v d → Q' d → Q v H') → (∀ x H', Ex S H H' → E' x → E (.ref (c.cls x)) none H') → sp vs H Q E
/-- a promise about data -/
def lift (K : PySem.W.Frag) (c : CEnv) (ps : PSp) : Sp := fun vs H Q E => ∃ (S : Option (Addr × Addr)) (O : List Addr) (ds : List Da) (Q' : Da → Prop) (E' : Str → Prop),
  Occ H O ∧ (∀ st L, S = some (st, L) → Draw H st L ∧ st ∈ O) ∧ RpA K c (S.map (·.1)) (hid H O) vs ds ∧ ps ds Q' E' ∧ (∀ v d H', Ex S H H' → Rp K c (S.map (·.1)) (hid H' O) v d → Q' d → Q v H') ∧ (∀ x H', Ex S H H' → E' x → E (.ref (c.cls x)) none H')
theorem spSim_lift {K : PySem.W.Frag} {c : CEnv} {ps : PSp} : SpSim K c (lift K c ps) ps := fun S O H vs ds Q E Q' E' a b r p q e => ⟨S, O, ds, Q', E', a, b, r, p, q, e⟩
theorem call_go {sp : Sp} {ps : PSp} (hs : SpSim N.K N.c sp ps) {vs : List V} {ds : List Da} {Q : VK} {E : XK} {Q' : Da → Prop} {E' : Str → Prop} (r : Rel N.K N.c w H0 B ow H σ ρ) (h : RpA N.K N.c w.st (dh w ow H) vs ds) (p : ps ds Q' E') (k : Post N w H0 B ow H σ ρ Q' Q)
    (e : ∀ x H', Rel N.K N.c w H0 B ow H' σ ρ → E' x → E (.ref (N.c.cls x)) none H') : sp vs H Q E :=
  hs w.S (hl w ow) H vs ds Q E Q' E' r.occ (fun st L z => ⟨(r.dr st L z).1, r.stO st L z⟩) h p (fun v d H' x rv q => k v d H' (r.ex x) x rv q) (fun x H' ex z => e x H' (r.ex ex) z)
def pCal (ps : PSp) (t : PAr) : PEx := fun ρ Q => t ρ fun ds => ps ds Q fun _ => False
def pCalS (Wp : WP) (ps : PSp) (t : PAr) : PEx := fun ρ Q => t ρ fun ds => ps ds Q fun x => Wp x ρ
theorem sim_cal {sp : Sp} {ps : PSp} {t : TA} {pt : PAr} (hs : SpSim N.K N.c sp ps) (ht : SimA N t pt) : SimE N (tCal sp t) (pCal ps pt) := by
  intro w H0 B aw ow H σ ρ Q Q' r z k
  refine ht w H0 B aw ow H σ ρ _ _ r z fun vs ds H1 r1 s1 h1 q1 => ?_
  exact call_go hs r1 h1 q1 (k.then s1 fun _ q => q) (fun _ _ _ f => f.elim)
theorem sim_calS {sp : Sp} {ps : PSp} {t : TA} {pt : PAr} (hs : SpSim N.K N.c sp ps) (ht : SimA N t pt) : SimE N (tCallS sp (WE N.W) t) (pCalS N.Wp ps pt) := by
  intro w H0 B aw ow H σ ρ Q Q' r z k
  refine ht w H0 B aw ow H σ ρ _ _ r z fun vs ds H1 r1 s1 h1 q1 => ?_
  exact call_go hs r1 h1 q1 (k.then s1 fun _ q => q) (fun x H' r' f => aw x ow H' σ ρ r' f)
def pMt (x m : Str) (ps : PSp) (a : PEx) (t : PAr) : PEx := fun ρ Q => a ρ fun d => ∃ ks l, d = .ins x ks l ∧ ks.contains m = false ∧ t ρ fun ds => ps (d :: ds) Q fun _ => False
def pMtX (Wp : WP) (x m : Str) (ps : PSp) (a : PEx) (t : PAr) : PEx := fun ρ Q => a ρ fun d => ∃ ks l, d = .ins x ks l ∧ ks.contains m = false ∧ t ρ fun ds => ps (d :: ds) Q fun x => Wp x ρ
def pPr (x : Str) (ps : PSp) (a : PEx) : PEx := fun ρ Q => a ρ fun d => ∃ ks l, d = .ins x ks l ∧ ps [d] Q fun _ => False
theorem sim_mt {x m : Str} {sp : Sp} {ps : PSp} {a : TE} {t : TA} {p : PEx} {pt : PAr} (hs : SpSim N.K N.c sp ps) (ha : SimE N a p) (ht : SimA N t pt) : SimE N (tMt N.c x m sp a t) (pMt x m ps p pt) := by
  intro w H0 B aw ow H σ ρ Q Q' r z k
  refine ha w H0 B aw ow H σ ρ _ _ r z fun v d H1 r1 s1 h1 ⟨ks, l, e, hc, q1⟩ => ?_
  subst e
  have h1' := h1
  obtain ⟨b, dx, xs, rfl, ok, e, hl, ra⟩ := rpO h1
  refine ⟨b, dx, _, rfl, hid_le _ _ e, zip_lookup0 hc, ?_⟩
  refine ht w H0 B aw ow H1 σ ρ _ _ r1 q1 fun vs ds H2 r2 s2 h2 q2 => ?_
  exact call_go hs r2 (.cons (rpS (s2.dh r1) h1') h2) q2 (k.then (Ex.trans s1 s2) fun _ q => q) (fun _ _ _ f => f.elim)
theorem sim_mtX {x m : Str} {sp : Sp} {ps : PSp} {a : TE} {t : TA} {p : PEx} {pt : PAr} (hs : SpSim N.K N.c sp ps) (ha : SimE N a p) (ht : SimA N t pt) : SimE N (tMtX N.c x m sp N.W a t) (pMtX N.Wp x m ps p pt) := by
  intro w H0 B aw ow H σ ρ Q Q' r z k
  refine ha w H0 B aw ow H σ ρ _ _ r z fun v d H1 r1 s1 h1 ⟨ks, l, e, hc, q1⟩ => ?_
  subst e
  have h1' := h1
  obtain ⟨b, dx, xs, rfl, ok, e, hl, ra⟩ := rpO h1
  refine ⟨b, dx, _, rfl, hid_le _ _ e, zip_lookup0 hc, ?_⟩
  refine ht w H0 B aw ow H1 σ ρ _ _ r1 q1 fun vs ds H2 r2 s2 h2 q2 => ?_
  exact call_go hs r2 (.cons (rpS (s2.dh r1) h1') h2) q2 (k.then (Ex.trans s1 s2) fun _ q => q) (fun x H' r' f => aw x ow H' σ ρ r' f)
theorem sim_pr {x : Str} {sp : Sp} {ps : PSp} {a : TE} {p : PEx} (hs : SpSim N.K N.c sp ps) (ha : SimE N a p) : SimE N (tPr N.c x sp a) (pPr x ps p) := by
  intro w H0 B aw ow H σ ρ Q Q' r z k
  refine ha w H0 B aw ow H σ ρ _ _ r z fun v d H1 r1 s1 h1 ⟨ks, l, e, q1⟩ => ?_
  subst e
  have h1' := h1
  obtain ⟨b, dx, xs, rfl, ok, e, hl, ra⟩ := rpO h1
  exact ⟨b, dx, _, rfl, hid_le _ _ e, call_go hs r1 (.cons h1' .nil) q1 (k.then s1 fun _ q => q) (fun _ _ _ f => f.elim)⟩
/-! ### making -/
def SpSimI (K : PySem.W.Frag) (c : CEnv) (x : Str) (gs : List Str) (sp : Sp) (ps : PSi) : Prop := ∀ (S : Option (Addr × Addr)) (O : List Addr) (H : Hp) (p dx : Addr) (vs : List V) (ds : List Da) (Q : VK) (E : XK) (Q' : List Da → Prop) (E' : Str → Prop),
  Occ H O → (∀ st L, S = some (st, L) → Draw H st L ∧ st ∈ O ∧ p ≠ st ∧ p ≠ L) → ClsOk K c x gs → H p = some (.ins (c.cls x) dx []) → p ∉ O → RpA K c (S.map (·.1)) (hid H (p :: O)) vs ds → ps ds Q' E' →
  (∀ l H', (∀ a o, (∀ st L, S = some (st, L) → a ≠ st) → a ≠ p → H a = some o → H' a = some o) → (∀ st L, S = some (st, L) → Draw H' st L) → Rp K c (S.map (·.1)) (hid H' O) (.ref p) (.ins x gs l) → Q' l → Q .non H') →
  (∀ y H', (∀ a o, (∀ st L, S = some (st, L) → a ≠ st) → a ≠ p → H a = some o → H' a = some o) → (∀ st L, S = some (st, L) → Draw H' st L) → E' y → E (.ref (c.cls y)) none H') → sp (.ref p :: vs) H Q E
def liftI (K : PySem.W.Frag) (c : CEnv) (x : Str) (gs : List Str) (ps : PSi) : Sp := fun us H Q E => ∃ (S : Option (Addr × Addr)) (O : List Addr) (p dx : Addr) (vs : List V) (ds : List Da) (Q' : List Da → Prop) (E' : Str → Prop),
  us = .ref p :: vs ∧ Occ H O ∧ (∀ st L, S = some (st, L) → Draw H st L ∧ st ∈ O ∧ p ≠ st ∧ p ≠ L) ∧ ClsOk K c x gs ∧ H p = some (.ins (c.cls x) dx []) ∧ p ∉ O ∧ RpA K c (S.map (·.1)) (hid H (p :: O)) vs ds ∧ ps ds Q' E' ∧
  (∀ l H', (∀ a o, (∀ st L, S = some (st, L) → a ≠ st) → a ≠ p → H a = some o → H' a = some o) → (∀ st L, S = some (st, L) → Draw H' st L) → Rp K c (S.map (·.1)) (hid H' O) (.ref p) (.ins x gs l) → Q' l → Q .non H') ∧
  (∀ y H', (∀ a o, (∀ st L, S = some (st, L) → a ≠ st) → a ≠ p → H a = some o → H' a = some o) → (∀ st L, S = some (st, L) → Draw H' st L) → E' y → E (.ref (c.cls y)) none H')
theorem spSimI_lift {K : PySem.W.Frag} {c : CEnv} {x : Str} {gs : List Str} {ps : PSi} : SpSimI K c x gs (liftI K c x gs ps) ps := fun S O H p dx vs ds Q E Q' E' a b ok hp np r z q e => ⟨S, O, p, dx, vs, ds, Q', E', rfl, a, b, ok, hp, np, r, z, q, e⟩
theorem make_go {x : Str} {gs : List Str} {sp : Sp} {ps : PSi} (hs : SpSimI N.K N.c x gs sp ps) {vs : List V} {ds : List Da} {Q : VK} {E : XK} {Q' : List Da → Prop} {E' : Str → Prop} {p dx : Addr} (ok : ClsOk N.K N.c x gs) (r : Rel N.K N.c w H0 B ow H σ ρ) (h : RpA N.K N.c w.st (dh w ow H) vs ds)
    (hp : H p = none) (hdx : H dx = none) (ne : dx ≠ p) (z : ps ds Q' E') (k : Post N w H0 B ow H σ ρ (fun d => ∃ l, d = .ins x gs l ∧ Q' l) Q) (e : ∀ y H', Rel N.K N.c w H0 B ow H' σ ρ → E' y → E (.ref (N.c.cls y)) none H') :
    sp (.ref p :: vs) (upd (upd H dx (.own p)) p (.ins (N.c.cls x) dx [])) (fun v H2 => v = .non ∧ Q (.ref p) H2) E := by
  have hp2 : upd H dx (.own p) p = none := by rw [upd_ne ne.symm]; exact hp
  have s1 : Same H (upd (upd H dx (.own p)) p (.ins (N.c.cls x) dx [])) := Same.new hp2 (Same.new hdx (Same.refl H))
  have back : ∀ H', (∀ a o, (∀ st L, w.S = some (st, L) → a ≠ st) → a ≠ p → upd (upd H dx (.own p)) p (.ins (N.c.cls x) dx []) a = some o → H' a = some o) → (∀ st L, w.S = some (st, L) → Draw H' st L) → Ex w.S H H' := fun H' h1 h2 => ⟨fun a o n ea => h1 a o n (fun z => by subst z; rw [hp] at ea; cases ea) (s1 a o ea), h2⟩
  refine hs w.S (hl w ow) _ p dx vs ds _ E Q' E' (r.occ.same s1) (fun st L q => ⟨(r.dr st L q).1.same s1, r.stO st L q, Draw.ne hp (r.dr st L q).1, Draw.neL hp (r.dr st L q).1⟩) ok upd_same (r.occ.no hp) (rpsS (hid_ofS hp s1) h) z (fun l H' h1 h2 rp q => ⟨rfl, ?_⟩) (fun y H' h1 h2 q => e y H' (r.ex (back H' h1 h2)) q)
  exact k _ _ H' (r.ex (back H' h1 h2)) (back H' h1 h2) rp ⟨l, rfl, q⟩
def pMk (x : Str) (gs : List Str) (ps : PSi) (t : PAr) : PEx := fun ρ Q => t ρ fun ds => ps ds (fun l => Q (.ins x gs l)) fun _ => False
def pMkX (Wp : WP) (x : Str) (gs : List Str) (ps : PSi) (t : PAr) : PEx := fun ρ Q => t ρ fun ds => ps ds (fun l => Q (.ins x gs l)) fun y => Wp y ρ
theorem sim_mk {x : Str} {gs : List Str} {sp : Sp} {ps : PSi} {t : TA} {pt : PAr} (hs : SpSimI N.K N.c x gs sp ps) (ht : SimA N t pt) : SimE N (tMk N.K N.c x gs sp t) (pMk x gs ps pt) := by
  intro w H0 B aw ow H σ ρ Q Q' r z k
  refine ht w H0 B aw ow H σ ρ _ _ r z fun vs ds H1 r1 s1 h1 q1 ok p dx hp hdx ne => ?_
  exact make_go hs ok r1 h1 hp hdx ne q1 (k.then s1 fun d ⟨l, e, q⟩ => e ▸ q) (fun _ _ _ f => f.elim)
theorem sim_mkX {x : Str} {gs : List Str} {sp : Sp} {ps : PSi} {t : TA} {pt : PAr} (hs : SpSimI N.K N.c x gs sp ps) (ht : SimA N t pt) : SimE N (tMkX N.K N.c x gs sp N.W t) (pMkX N.Wp x gs ps pt) := by
  intro w H0 B aw ow H σ ρ Q Q' r z k
  refine ht w H0 B aw ow H σ ρ _ _ r z fun vs ds H1 r1 s1 h1 q1 ok p dx hp hdx ne => ?_
  exact make_go hs ok r1 h1 hp hdx ne q1 (k.then s1 fun d ⟨l, e, q⟩ => e ▸ q) (fun y H' r' f => aw y ow H' σ ρ r' f)
/-- constants that are lacking -/
def cstD : Cst → Da
  | .v .non => .non | .v (.bl b) => .bl b | .v (.int i) => .int i | .v (.str x) => .str x | .v _ => .non
  | .e => .tup []
def cstOk : Cst → Bool
  | .v .non => true | .v (.bl b) => true | .v (.int i) => true | .v (.str x) => true | .v _ => false
  | .e => true
theorem cst_rp {K : PySem.W.Frag} {c : CEnv} {S : Option Addr} {G : Hp} : ∀ {ms : List Cst} {vs : List V}, All2 (Cst.Is K) ms vs → ms.all cstOk = true → RpA K c S G vs (ms.map cstD)
  | [], _, h, _ => by cases h; exact .nil
  | m :: ms, _, h, o => by
    rw [List.all_cons, Bool.and_eq_true] at o
    cases h with
    | cons h t =>
      refine .cons ?_ (cst_rp t o.2)
      cases m with
      | v y =>
        have h : _ = y := h
        rw [h]
        clear h
        cases y <;> first | (cases o.1; done) | (constructor; done)
      | e => obtain ⟨T, rfl, e⟩ := h; exact .tup (e G) .nil
theorem gSel_rp {K : PySem.W.Frag} {c : CEnv} {S : Option Addr} {G : Hp} (sel : List (Bool × Nat)) {vs mz zs : List V} {ds dm dz : List Da} (h1 : RpA K c S G vs ds) (h2 : RpA K c S G mz dm) (h3 : RpA K c S G zs dz) : RpA K c S G (gSel sel vs mz zs) (gSel sel ds dm dz) := by
  unfold gSel
  refine rpsApp h1 ?_
  have one : ∀ {xs : List V} {as : List Da} (i : Nat), RpA K c S G xs as → (xs[i]? = none ∧ as[i]? = none) ∨ ∃ x a, xs[i]? = some x ∧ as[i]? = some a ∧ Rp K c S G x a := by
    intro xs as i r
    cases e : xs[i]? with
    | none =>
      refine .inl ⟨rfl, ?_⟩
      rw [List.getElem?_eq_none_iff] at e ⊢
      rw [← rpsLen r]; exact e
    | some x => obtain ⟨a, ea, ra⟩ := rpsGetV r e; exact .inr ⟨x, a, rfl, ea, ra⟩
  induction sel with
  | nil => exact .nil
  | cons z t ih =>
    obtain ⟨b, i⟩ := z
    cases b with
    | true =>
      rcases one i h3 with ⟨e1, e2⟩ | ⟨x, a, e1, e2, r⟩
      · simp only [List.filterMap_cons, if_pos, e1, e2]; exact ih
      · simp only [List.filterMap_cons, if_pos, e1, e2]; exact .cons r ih
    | false =>
      rcases one i h2 with ⟨e1, e2⟩ | ⟨x, a, e1, e2, r⟩
      · simp only [List.filterMap_cons, Bool.false_eq_true, if_false, e1, e2]; exact ih
      · simp only [List.filterMap_cons, Bool.false_eq_true, if_false, e1, e2]; exact .cons r ih
/-- how values, constants and keywords stand behind self -/
def selD (sel : List (Bool × Nat)) (ms : List Cst) (ds dz : List Da) : List Da := gSel sel ds (ms.map cstD) dz
def pMkK (Wp : WP) (x : Str) (gs : List Str) (n nk : Nat) (ms : List Cst) (sel : List (Bool × Nat)) (ps : PSi) (t tk : PAr) : PEx := fun ρ Q => t ρ fun ds => tk ρ fun dz => ds.length = n ∧ dz.length = nk ∧ ps (selD sel ms ds dz) (fun l => Q (.ins x gs l)) fun y => Wp y ρ
theorem sim_mkK {x : Str} {gs : List Str} {n nk : Nat} {ms : List Cst} {sel : List (Bool × Nat)} {sp : Sp} {ps : PSi} {t tk : TA} {pt pk : PAr} (hs : SpSimI N.K N.c x gs sp ps) (ht : SimA N t pt) (hk : SimA N tk pk) (hm : ms.all cstOk = true := by rfl) : SimE N (tMkK N.K N.c x gs n nk ms sel sp N.W t tk) (pMkK N.Wp x gs n nk ms sel ps pt pk) := by
  intro w H0 B aw ow H σ ρ Q Q' r z k
  refine ht w H0 B aw ow H σ ρ _ _ r z fun vs ds H1 r1 s1 h1 q1 => ?_
  refine hk w H0 B aw ow H1 σ ρ _ _ r1 q1 fun zs dz H2 r2 s2 h2 q2 => ?_
  obtain ⟨l1, l2, q2⟩ := q2
  refine ⟨(rpsLen h1).trans l1, (rpsLen h2).trans l2, fun ok us hus p dx hp hdx ne => ?_⟩
  have rr := gSel_rp sel (rpsS (s2.dh r1) h1) (cst_rp (c := N.c) (S := w.st) (G := dh w ow H2) hus hm) h2
  rw [show gSel sel (V.ref p :: vs) us zs = V.ref p :: gSel sel vs us zs from rfl]
  exact make_go hs ok r2 rr hp hdx ne q2 (k.then (Ex.trans s1 s2) fun d ⟨l, e, q⟩ => e ▸ q) (fun y H' r' f => aw y ow H' σ ρ r' f)
end

/-! ### targets -/
abbrev PTgs := List Da → PEnv → (PEnv → Prop) → Prop
def SimGs (N : Cn) (g : TGs) (sl : List Nat) (pg : PTgs) : Prop := ∀ w H0 B ow H σ ρ vs ds Q Q', Rel N.K N.c w H0 B ow H σ ρ → RpA N.K N.c w.st (dh w ow H) vs ds → pg ds ρ Q' → (∀ σ' ρ', Rel N.K N.c w H0 B ow H σ' ρ' → (∀ us, (∀ i ∈ sl, i ∈ us) → wipe σ' us = wipe σ us) → Q' ρ' → Q σ' H) → g vs σ H Q
def pgName (i : Nat) : PTg := fun d ρ Q => Q (ρ.set i (some (.d d)))
def pgNil : PTgs := fun ds ρ Q => ds = [] ∧ Q ρ
def pgCons (g : PTg) (t : PTgs) : PTgs := fun ds ρ Q => ∃ d r, ds = d :: r ∧ g d ρ fun ρ' => t r ρ' Q
def pgTup (n : Nat) (t : PTgs) : PTg := fun d ρ Q => ∃ ds, d = .tup ds ∧ ds.length = n ∧ t ds ρ Q
theorem wipe_mem {σ : L2.St} {i : Nat} {x : Option V} : ∀ {us : List Nat}, i ∈ us → wipe (σ.set i x) us = wipe σ us
  | [], h => by cases h
  | u :: us, h => by
    unfold wipe
    by_cases e : i ∈ us
    · rw [wipe_mem e]
    · rcases List.mem_cons.mp h with rfl | h
      · have : ∀ us : List Nat, i ∉ us → wipe (σ.set i x) us = (wipe σ us).set i x := by
          intro us
          induction us with
          | nil => intro _; rfl
          | cons v vs ih =>
            intro hv
            unfold wipe
            rw [ih fun z => hv (List.mem_cons_of_mem _ z), List.set_comm _ _ (fun z => hv (by subst z; exact List.mem_cons_self ..))]
        rw [this us e, List.set_set]
      · exact absurd h e
theorem wipe_wipe {σ : L2.St} {us : List Nat} : wipe (wipe σ us) us = wipe σ us := by
  have : ∀ (vs : List Nat), (∀ v ∈ vs, v ∈ us) → wipe (wipe σ vs) us = wipe σ us := by
    intro vs
    induction vs with
    | nil => intro _; rfl
    | cons v vs ih =>
      intro h
      rw [show wipe σ (v :: vs) = (wipe σ vs).set v none from rfl, wipe_mem (h v (List.mem_cons_self ..)), ih fun u hu => h u (List.mem_cons_of_mem _ hu)]
  exact this us fun _ h => h
section
variable {N : Cn} {w : Pw} {H0 B H H' : Hp} {ow : Ow} {σ : L2.St} {ρ : PEnv}
theorem sim_gName (i : Nat) : SimG N (gName i) [i] (pgName i) := by
  intro w H0 B ow H σ ρ v d Q Q' r h q k
  exact k _ _ (r.set i h) (fun us hu => wipe_mem (hu i (List.mem_cons_self ..))) q
theorem sim_gNil : SimGs N gNil [] pgNil := by
  intro w H0 B ow H σ ρ vs ds Q Q' r h q k
  obtain ⟨rfl, q⟩ := q
  exact ⟨rps0 h, k _ _ r (fun _ _ => rfl) q⟩
theorem sim_gCons {g : TG} {sl sl2 : List Nat} {pg : PTg} {t : TGs} {pt : PTgs} (hg : SimG N g sl pg) (ht : SimGs N t sl2 pt) : SimGs N (gCons g t) (sl ++ sl2) (pgCons pg pt) := by
  intro w H0 B ow H σ ρ vs ds Q Q' r h q k
  obtain ⟨d, ds', rfl, q⟩ := q
  obtain ⟨v, ws, rfl, a, b⟩ := rpsC h
  refine ⟨v, ws, rfl, hg w H0 B ow H σ ρ v d _ _ r a q fun σ1 ρ1 r1 w1 q1 => ?_⟩
  exact ht w H0 B ow H σ1 ρ1 ws ds' _ _ r1 b q1 fun σ2 ρ2 r2 w2 q2 => k σ2 ρ2 r2 (fun us hu => (w2 us fun i hi => hu i (List.mem_append_right _ hi)).trans (w1 us fun i hi => hu i (List.mem_append_left _ hi))) q2
theorem sim_gTup {n : Nat} {t : TGs} {sl : List Nat} {pt : PTgs} (ht : SimGs N t sl pt) : SimG N (gTup N.K n t) sl (pgTup n pt) := by
  intro w H0 B ow H σ ρ v d Q Q' r h q k
  obtain ⟨ds, rfl, hl, q⟩ := q
  obtain ⟨a, xs, rfl, e, rr⟩ := rpT h
  exact ⟨a, xs, rfl, Same.sqT hid_le e, (rpsLen rr).trans hl, ht w H0 B ow H σ ρ xs ds _ _ r rr q k⟩
/-! ### what is walked -/
structure JOk (K : PySem.W.Frag) (c : CEnv) (S : Option Addr) (J : It) (G : Hp) (items : List Da) : Prop where
  stop : ∀ i H, items.length = i → Same G H → J.stop i H
  go : ∀ i H, i < items.length → Same G H → J.go i H
  yld : ∀ i H x H' d, items[i]? = some d → Same G H → J.yld i H x H' → Same H H' ∧ ∀ O, Occ H O → Same G (hid H O) → Rp K c S (hid H' O) x d
abbrev PIt := PEnv → (List Da → Prop) → Prop
def SimI (N : Cn) (wi : TI) (p : PIt) : Prop := ∀ w H0 B, AdW N w H0 B → ∀ ow H σ ρ (R : It → Hp → Prop) Q', Rel N.K N.c w H0 B ow H σ ρ → p ρ Q' → (∀ J items H', Rel N.K N.c w H0 B ow H' σ ρ → Ex w.S H H' → JOk N.K N.c w.st J (dh w ow H') items → Q' items → R J H') → wi σ H R
theorem jok_l {K : PySem.W.Frag} {c : CEnv} {S : Option Addr} {G : Hp} {a : Addr} {xs : List V} {ds : List Da} (e : G a = some (.lst xs)) (r : RpA K c S G xs ds) : JOk K c S (Itl K a) G ds := by
  have hl := rpsLen r
  refine ⟨fun i H h s => ⟨xs, SqL.of (s _ _ e), by omega⟩, fun i H h s => ?_, fun i H x H' d hd s y => ?_⟩
  · have h1 : i < xs.length := by omega
    exact ⟨xs, xs[i], SqL.of (s _ _ e), by simp [h1]⟩
  · obtain ⟨rfl, f⟩ := y
    obtain ⟨v, hv, rv⟩ := rpsGet r hd
    have := f xs (SqL.of (s _ _ e))
    rw [hv] at this
    cases this
    exact ⟨Same.refl _, fun O _ t => rpS t rv⟩
theorem jok_t {K : PySem.W.Frag} {c : CEnv} {S : Option Addr} {G : Hp} {a : Addr} {xs : List V} {ds : List Da} (e : SqT K G a xs) (r : RpA K c S G xs ds) : JOk K c S (Itt K a) G ds := by
  have hl := rpsLen r
  refine ⟨fun i H h s => ⟨xs, Same.sqT s e, by omega⟩, fun i H h s => ?_, fun i H x H' d hd s y => ?_⟩
  · have h1 : i < xs.length := by omega
    exact ⟨xs, xs[i], Same.sqT s e, by simp [h1]⟩
  · obtain ⟨rfl, f⟩ := y
    obtain ⟨v, hv, rv⟩ := rpsGet r hd
    have := f xs (Same.sqT s e)
    rw [hv] at this
    cases this
    exact ⟨Same.refl _, fun O _ t => rpS t rv⟩
def piSq (p : PEx) : PIt := fun ρ Q => p ρ fun d => ∃ l, (d = .lst l ∨ d = .tup l) ∧ Q l
theorem sim_iSq {t : TE} {p : PEx} (h : SimE N t p) : SimI N (iSq N.K t) (piSq p) := by
  intro w H0 B aw ow H σ ρ R Q' r q k
  refine h w H0 B aw ow H σ ρ _ _ r q fun v d H1 r1 x1 h1 ⟨l, e, q1⟩ => ?_
  rcases e with rfl | rfl
  · obtain ⟨a, xs, rfl, e, rr⟩ := rpL h1
    exact ⟨a, rfl, .inl ⟨⟨xs, SqL.of (hid_le _ _ e)⟩, k _ _ H1 r1 x1 (jok_l e rr) q1⟩⟩
  · obtain ⟨a, xs, rfl, e, rr⟩ := rpT h1
    exact ⟨a, rfl, .inr ⟨⟨xs, Same.sqT hid_le e⟩, k _ _ H1 r1 x1 (jok_t e rr) q1⟩⟩
def rngD (lo : Int) (n : Nat) : List Da := (List.range n).map fun (i : Nat) => Da.int (lo + (i : Int))
theorem rngD_len {lo : Int} {n : Nat} : (rngD lo n).length = n := by unfold rngD; rw [List.length_map, List.length_range]
theorem rngD_get {lo : Int} {n i : Nat} {d : Da} (h : (rngD lo n)[i]? = some d) : i < n ∧ d = .int (lo + (i : Int)) := by
  unfold rngD at h
  rw [List.getElem?_map] at h
  by_cases l : i < n
  · rw [List.getElem?_range l] at h
    cases h; exact ⟨l, rfl⟩
  · rw [List.getElem?_eq_none (by simpa using l)] at h; cases h
def piRng1 (p : PAr) : PIt := fun ρ Q => p ρ fun ds => ∃ j : Int, ds = [.int j] ∧ -1000000 ≤ j ∧ j ≤ 1000000 ∧ Q (rngD 0 j.toNat)
def piRng2 (p : PAr) : PIt := fun ρ Q => p ρ fun ds => ∃ i j : Int, ds = [.int i, .int j] ∧ (-1000000 ≤ i ∧ i ≤ 1000000 ∧ -1000000 ≤ j ∧ j ≤ 1000000) ∧ Q (rngD i (j - i).toNat)
theorem jok_r {K : PySem.W.Frag} {c : CEnv} {S : Option Addr} {G : Hp} {lo : Int} {n : Nat} : JOk K c S (Itr lo n) G (rngD lo n) := by
  refine ⟨fun i H h s => by rw [rngD_len] at h; exact Nat.le_of_eq h, fun i H h s => by rw [rngD_len] at h; exact h, fun i H x H' d hd s y => ?_⟩
  obtain ⟨rfl, rfl⟩ := y
  obtain ⟨_, rfl⟩ := rngD_get hd
  exact ⟨Same.refl _, fun O _ t => .int _⟩
theorem sim_iRng1 {t : TA} {p : PAr} (h : SimA N t p) : SimI N (iRng1 t) (piRng1 p) := by
  intro w H0 B aw ow H σ ρ R Q' r q k
  refine h w H0 B aw ow H σ ρ _ _ r q fun vs ds H1 r1 x1 h1 ⟨j, e, b1, b2, q1⟩ => ?_
  subst e
  obtain ⟨v, rfl, a⟩ := rps1 h1
  cases a
  exact ⟨j, rfl, by omega, by omega, k _ _ H1 r1 x1 jok_r q1⟩
theorem sim_iRng2 {t : TA} {p : PAr} (h : SimA N t p) : SimI N (iRng2 t) (piRng2 p) := by
  intro w H0 B aw ow H σ ρ R Q' r q k
  refine h w H0 B aw ow H σ ρ _ _ r q fun vs ds H1 r1 x1 h1 ⟨i, j, e, b1, q1⟩ => ?_
  subst e
  obtain ⟨v, u, rfl, a, b⟩ := rps2 h1
  cases a; cases b
  exact ⟨i, j, rfl, by omega, k _ _ H1 r1 x1 jok_r q1⟩
def zipD (a b : List Da) : List Da := (a.zip b).map fun z => .tup [z.1, z.2]
theorem zipD_get {a b : List Da} {i : Nat} {d : Da} (h : (zipD a b)[i]? = some d) : ∃ x y, a[i]? = some x ∧ b[i]? = some y ∧ d = .tup [x, y] := by
  unfold zipD at h
  rw [List.getElem?_map] at h
  cases e : (a.zip b)[i]? with
  | none => rw [e] at h; cases h
  | some z =>
    rw [e] at h
    obtain ⟨h1, h2⟩ := List.getElem?_zip_eq_some.mp e
    exact ⟨z.1, z.2, h1, h2, (Option.some.inj h).symm⟩
theorem zipD_len {a b : List Da} : (zipD a b).length = min a.length b.length := by unfold zipD; rw [List.length_map, List.length_zip]
def piZip (p : PAr) : PIt := fun ρ Q => p ρ fun ds => ∃ a b, (ds = [.lst a, .lst b] ∨ ds = [.tup a, .tup b]) ∧ Q (zipD a b)
theorem rp_pair {K : PySem.W.Frag} {c : CEnv} {S : Option Addr} {H : Hp} {T : Addr} {x y : V} {d e : Da} {O : List Addr} (hT : H T = none) (oc : Occ H O) (h1 : Rp K c S (hid H O) x d) (h2 : Rp K c S (hid H O) y e) : Rp K c S (hid (upd H T (.tup [x, y])) O) (.ref T) (.tup [d, e]) :=
  .tup (SqT.of (hid_lk (oc.no hT) upd_same)) (.cons (rpS (hid_new hT) h1) (.cons (rpS (hid_new hT) h2) .nil))
theorem sim_iZip {t : TA} {p : PAr} (h : SimA N t p) : SimI N (RZ.iZipA N.K t) (piZip p) := by
  intro w H0 B aw ow H σ ρ R Q' r q k
  refine h w H0 B aw ow H σ ρ _ _ r q fun vs ds H1 r1 x1 h1 ⟨a, b, e, q1⟩ => ?_
  rcases e with rfl | rfl
  · obtain ⟨v, u, rfl, ha, hb⟩ := rps2 h1
    obtain ⟨pa, xs, rfl, ea, ra⟩ := rpL ha
    obtain ⟨pb, ys, rfl, eb, rb⟩ := rpL hb
    have la := rpsLen ra
    have lb := rpsLen rb
    refine ⟨pa, pb, xs, ys, rfl, .inl ⟨SqL.of (hid_le _ _ ea), SqL.of (hid_le _ _ eb), k _ _ H1 r1 x1 ⟨fun i H h s => ⟨xs, ys, SqL.of (s _ _ ea), SqL.of (s _ _ eb), by rw [zipD_len] at h; omega⟩, fun i H h s => ?_, fun i H x H' d hd s y => ?_⟩ q1⟩⟩
    · rw [zipD_len] at h
      have h1 : i < xs.length := by omega
      have h2 : i < ys.length := by omega
      exact ⟨xs, ys, xs[i], ys[i], SqL.of (s _ _ ea), SqL.of (s _ _ eb), by simp [h1], by simp [h2]⟩
    · obtain ⟨T, x1, y1, rfl, hT, rfl, f1, f2⟩ := y
      obtain ⟨d1, d2, e1, e2, rfl⟩ := zipD_get hd
      obtain ⟨v, hv, rv⟩ := rpsGet ra e1
      obtain ⟨u, hu, ru⟩ := rpsGet rb e2
      have z1 := f1 xs (SqL.of (s _ _ ea))
      have z2 := f2 ys (SqL.of (s _ _ eb))
      rw [hv] at z1; rw [hu] at z2
      cases z1; cases z2
      exact ⟨Same.new hT (Same.refl _), fun O oc t => rp_pair hT oc (rpS t rv) (rpS t ru)⟩
  · obtain ⟨v, u, rfl, ha, hb⟩ := rps2 h1
    obtain ⟨pa, xs, rfl, ea, ra⟩ := rpT ha
    obtain ⟨pb, ys, rfl, eb, rb⟩ := rpT hb
    have la := rpsLen ra
    have lb := rpsLen rb
    refine ⟨pa, pb, xs, ys, rfl, .inr ⟨Same.sqT hid_le ea, Same.sqT hid_le eb, k _ _ H1 r1 x1 ⟨fun i H h s => ⟨xs, ys, Same.sqT s ea, Same.sqT s eb, by rw [zipD_len] at h; omega⟩, fun i H h s => ?_, fun i H x H' d hd s y => ?_⟩ q1⟩⟩
    · rw [zipD_len] at h
      have h1 : i < xs.length := by omega
      have h2 : i < ys.length := by omega
      exact ⟨xs, ys, xs[i], ys[i], Same.sqT s ea, Same.sqT s eb, by simp [h1], by simp [h2]⟩
    · obtain ⟨T, x1, y1, rfl, hT, rfl, f1, f2⟩ := y
      obtain ⟨d1, d2, e1, e2, rfl⟩ := zipD_get hd
      obtain ⟨v, hv, rv⟩ := rpsGet ra e1
      obtain ⟨u, hu, ru⟩ := rpsGet rb e2
      have z1 := f1 xs (Same.sqT s ea)
      have z2 := f2 ys (Same.sqT s eb)
      rw [hv] at z1; rw [hu] at z2
      cases z1; cases z2
      exact ⟨Same.new hT (Same.refl _), fun O oc t => rp_pair hT oc (rpS t rv) (rpS t ru)⟩
def enumD (l : List Da) : List Da := l.mapIdx fun i x => .tup [.int (i : Nat), x]
theorem enumD_get {l : List Da} {i : Nat} {d : Da} (h : (enumD l)[i]? = some d) : ∃ x, l[i]? = some x ∧ d = .tup [.int (i : Nat), x] := by
  unfold enumD at h
  rw [List.getElem?_mapIdx] at h
  cases e : l[i]? with
  | none => rw [e] at h; cases h
  | some x => rw [e] at h; exact ⟨x, rfl, (Option.some.inj h).symm⟩
theorem enumD_len {l : List Da} : (enumD l).length = l.length := by unfold enumD; rw [List.length_mapIdx]
def piEnum (p : PAr) : PIt := fun ρ Q => p ρ fun ds => ∃ l, (ds = [.lst l] ∨ ds = [.tup l]) ∧ Q (enumD l)
theorem sim_iEnum {t : TA} {p : PAr} (h : SimA N t p) : SimI N (iEnumA N.K t) (piEnum p) := by
  intro w H0 B aw ow H σ ρ R Q' r q k
  refine h w H0 B aw ow H σ ρ _ _ r q fun vs ds H1 r1 x1 h1 ⟨a, e, q1⟩ => ?_
  rcases e with rfl | rfl
  · obtain ⟨v, rfl, ha⟩ := rps1 h1
    obtain ⟨pa, xs, rfl, ea, ra⟩ := rpL ha
    have la := rpsLen ra
    refine ⟨pa, xs, rfl, .inl ⟨SqL.of (hid_le _ _ ea), k _ _ H1 r1 x1 ⟨fun i H h s => ⟨xs, SqL.of (s _ _ ea), by rw [enumD_len] at h; omega⟩, fun i H h s => ?_, fun i H x H' d hd s y => ?_⟩ q1⟩⟩
    · rw [enumD_len] at h
      have h1 : i < xs.length := by omega
      exact ⟨xs, xs[i], SqL.of (s _ _ ea), by simp [h1]⟩
    · obtain ⟨T, x1, rfl, hT, rfl, f1⟩ := y
      obtain ⟨d1, e1, rfl⟩ := enumD_get hd
      obtain ⟨v, hv, rv⟩ := rpsGet ra e1
      have z1 := f1 xs (SqL.of (s _ _ ea))
      rw [hv] at z1
      cases z1
      exact ⟨Same.new hT (Same.refl _), fun O oc t => rp_pair hT oc (.int _) (rpS t rv)⟩
  · obtain ⟨v, rfl, ha⟩ := rps1 h1
    obtain ⟨pa, xs, rfl, ea, ra⟩ := rpT ha
    have la := rpsLen ra
    refine ⟨pa, xs, rfl, .inr ⟨Same.sqT hid_le ea, k _ _ H1 r1 x1 ⟨fun i H h s => ⟨xs, Same.sqT s ea, by rw [enumD_len] at h; omega⟩, fun i H h s => ?_, fun i H x H' d hd s y => ?_⟩ q1⟩⟩
    · rw [enumD_len] at h
      have h1 : i < xs.length := by omega
      exact ⟨xs, xs[i], Same.sqT s ea, by simp [h1]⟩
    · obtain ⟨T, x1, rfl, hT, rfl, f1⟩ := y
      obtain ⟨d1, e1, rfl⟩ := enumD_get hd
      obtain ⟨v, hv, rv⟩ := rpsGet ra e1
      have z1 := f1 xs (Same.sqT s ea)
      rw [hv] at z1
      cases z1
      exact ⟨Same.new hT (Same.refl _), fun O oc t => rp_pair hT oc (.int _) (rpS t rv)⟩
def strD (x : Str) : List Da := x.cps.toList.map fun ch => .str ⟨#[ch]⟩
def piStr (p : PEx) : PIt := fun ρ Q => p ρ fun d => ∃ x, d = .str x ∧ Q (strD x)
theorem sim_iStr {t : TE} {p : PEx} (h : SimE N t p) : SimI N (iStr t) (piStr p) := by
  intro w H0 B aw ow H σ ρ R Q' r q k
  refine h w H0 B aw ow H σ ρ _ _ r q fun v d H1 r1 x1 h1 ⟨x, e, q1⟩ => ?_
  subst e; cases h1
  have hl : (strD x).length = x.cps.size := by unfold strD; rw [List.length_map, Array.length_toList]
  refine ⟨x, rfl, k _ _ H1 r1 x1 ⟨fun i H h s => by rw [hl] at h; exact Nat.le_of_eq h, fun i H h s => by rw [hl] at h; exact h, fun i H v H' d hd s y => ?_⟩ q1⟩
  obtain ⟨rfl, ch, e, rfl⟩ := y
  unfold strD at hd
  rw [List.getElem?_map, Array.getElem?_toList, e] at hd
  cases hd
  exact ⟨Same.refl _, fun O _ t => .str _⟩
/-! ### statements -/
def pNext : PSt := fun D ρ => D.nx ρ
def pSeq (p q : PSt) : PSt := fun D ρ => p { D with nx := q D } ρ
def pCut (p q : PSt) : PSt := fun D ρ => ∃ M : PEnv → Prop, p { D with nx := M } ρ ∧ ∀ ρ', M ρ' → q D ρ'
def pAsg (e : PEx) (g : PTg) : PSt := fun D ρ => e ρ fun d => g d ρ D.nx
def pDrop (e : PEx) : PSt := fun D ρ => e ρ fun _ => D.nx ρ
def pRet (e : PEx) : PSt := fun D ρ => e ρ D.rt
def pRetN : PSt := fun D _ => D.rt .non
def pIfS (t : PTe) (p q : PSt) : PSt := fun D ρ => t ρ fun b => if b = true then p D ρ else q D ρ
def pBreak : PSt := fun D ρ => D.bk ρ
def pCont : PSt := fun D ρ => D.ct ρ
def pRaise (Wp : WP) (x : Str) : PSt := fun _ ρ => Wp x ρ
def pRaiseA (Wp : WP) (x : Str) (e : PEx) : PSt := fun _ ρ => e ρ fun _ => Wp x ρ
def pLoop (l : List Da) (g : PTg) (b : PSt) : PSt := fun D ρ => ∃ I : Nat → PEnv → Prop, I 0 ρ ∧ (∀ i x ρ', l[i]? = some x → I i ρ' → g x ρ' fun ρ2 => b { D with nx := I (i + 1), ct := I (i + 1), bk := D.nx } ρ2) ∧ ∀ ρ', I l.length ρ' → D.nx ρ'
def pFor (pi : PIt) (g : PTg) (b : PSt) : PSt := fun D ρ => pi ρ fun l => pLoop l g b D ρ
def pWhile (t : PTe) (b : PSt) : PSt := fun D ρ => ∃ I : Nat → PEnv → Prop, (∃ m, I m ρ) ∧ ∀ m ρ, I m ρ → t ρ fun k => if k = true then b { D with nx := fun ρ' => ∃ m', m' < m ∧ I m' ρ', ct := fun ρ' => ∃ m', m' < m ∧ I m' ρ', bk := D.nx } ρ else D.nx ρ
theorem AdD.withNx {D : Ends} {D' : PD} {nx : L2.St → Hp → Prop} {nx' : PEnv → Prop} (a : AdD N w H0 B D D') (h : ∀ ow H σ ρ, Rel N.K N.c w H0 B ow H σ ρ → nx' ρ → nx σ H) : AdD N w H0 B { D with nx := nx } { D' with nx := nx' } := ⟨h, a.bk, a.ct, a.rt⟩
theorem AdD.re {B' : Hp} {D : Ends} {D' : PD} (a : AdD N w H0 B D D') (s : Same B B') : AdD N w H0 B' D D' := ⟨fun ow H σ ρ r q => a.nx _ _ _ _ (r.re s) q, fun ow H σ ρ r q => a.bk _ _ _ _ (r.re s) q, fun ow H σ ρ r q => a.ct _ _ _ _ (r.re s) q, fun ow H σ ρ v d r h q => a.rt _ _ _ _ _ _ (r.re s) h q⟩
theorem sim_next : SimS N tNext pNext := fun w H0 B aw ow H σ ρ D D' a r q => a.nx _ _ _ _ r q
theorem sim_break : SimS N tBreak pBreak := fun w H0 B aw ow H σ ρ D D' a r q => a.bk _ _ _ _ r q
theorem sim_cont : SimS N tCont pCont := fun w H0 B aw ow H σ ρ D D' a r q => a.ct _ _ _ _ r q
theorem sim_seq {t u : TS} {p q : PSt} (ht : SimS N t p) (hu : SimS N u q) : SimS N (tSeq t u) (pSeq p q) := fun w H0 B aw ow H σ ρ D D' a r z =>
  ht w H0 B aw ow H σ ρ _ _ (a.withNx fun ow' H' σ' ρ' r' q' => hu w H0 B aw ow' H' σ' ρ' D D' a r' q') r z
theorem sim_cut {t u : TS} {p q : PSt} (ht : SimS N t p) (hu : SimS N u q) : SimS N (tCut t u) (pCut p q) := fun w H0 B aw ow H σ ρ D D' a r ⟨M, z, h⟩ =>
  ⟨fun σ' H' => ∃ ow' ρ', Rel N.K N.c w H0 B ow' H' σ' ρ' ∧ M ρ', ht w H0 B aw ow H σ ρ _ _ (a.withNx fun ow' H' σ' ρ' r' q' => ⟨ow', ρ', r', q'⟩) r z, fun σ' H' ⟨ow', ρ', r', m⟩ => hu w H0 B aw ow' H' σ' ρ' D D' a r' (h ρ' m)⟩
theorem sim_asg {t : TE} {g : TG} {p : PEx} {sl : List Nat} {pg : PTg} (ht : SimE N t p) (hg : SimG N g sl pg) : SimS N (tAsg t g) (pAsg p pg) := fun w H0 B aw ow H σ ρ D D' a r z =>
  ht w H0 B aw ow H σ ρ _ _ r z fun v d H1 r1 x1 h1 q1 => hg w H0 B ow H1 σ ρ v d _ _ r1 h1 q1 fun σ' ρ' r' _ q' => a.nx _ _ _ _ r' q'
theorem sim_drop {t : TE} {p : PEx} (ht : SimE N t p) : SimS N (tDrop t) (pDrop p) := fun w H0 B aw ow H σ ρ D D' a r z =>
  ht w H0 B aw ow H σ ρ _ _ r z fun v d H1 r1 x1 h1 q1 => a.nx _ _ _ _ r1 q1
theorem sim_ret {t : TE} {p : PEx} (ht : SimE N t p) : SimS N (tRet t) (pRet p) := fun w H0 B aw ow H σ ρ D D' a r z =>
  ht w H0 B aw ow H σ ρ _ _ r z fun v d H1 r1 x1 h1 q1 => a.rt _ _ _ _ _ _ r1 h1 q1
theorem sim_retN : SimS N tRetN pRetN := fun w H0 B aw ow H σ ρ D D' a r z => a.rt _ _ _ _ _ _ r .non z
theorem sim_ifS {t : TT} {a b : TS} {p : PTe} {pa pb : PSt} (h : SimT N t p) (ha : SimS N a pa) (hb : SimS N b pb) : SimS N (tIfS t a b) (pIfS p pa pb) := by
  intro w H0 B aw ow H σ ρ D D' a r z
  refine h w H0 B aw ow H σ ρ _ _ r z fun b H1 r1 s1 q1 => ?_
  cases b with
  | true => exact z_iteT (ha w H0 B aw ow H1 σ ρ _ _ a r1 (by simpa using q1))
  | false => exact z_iteF (hb w H0 B aw ow H1 σ ρ _ _ a r1 (by simpa using q1))
theorem sim_raise {x : Str} : SimS N (sRaise N.c x N.W) (pRaise N.Wp x) := fun w H0 B aw ow H σ ρ D D' a r z => aw x ow H σ ρ r z
theorem sim_raiseA {x : Str} {t : TE} {p : PEx} (h : SimE N t p) : SimS N (sRaiseA N.c x t N.W) (pRaiseA N.Wp x p) := fun w H0 B aw ow H σ ρ D D' a r z =>
  h w H0 B aw ow H σ ρ _ _ r z fun v d H1 r1 s1 h1 q1 => aw x ow H1 σ ρ r1 q1
theorem sim_for {wi : TI} {pi : PIt} {g : TG} {sl : List Nat} {pg : PTg} {tb : TS} {pb : PSt} (hi : SimI N wi pi) (hg : SimG N g sl pg) (hb : SimS N tb pb) : SimS N (tFor wi g tb) (pFor pi pg pb) := by
  intro w H0 B aw ow H σ ρ D D' a r z
  refine hi w H0 B aw ow H σ ρ _ _ r z fun J items H1 r1 x1 j ⟨I, i0, st, fin⟩ => ?_
  have base : Same B (dh w ow H1) := r1.bs
  refine ⟨fun i m σ' H' => m = items.length - i ∧ i ≤ items.length ∧ ∃ ow' ρ', Rel N.K N.c w H0 (dh w ow H1) ow' H' σ' ρ' ∧ I i ρ', ⟨_, rfl, Nat.zero_le _, ow, ρ, ⟨r1.occ, r1.dr, r1.nd, r1.inj, r1.fr, r1.fr2, r1.len, r1.sl, Same.refl _⟩, i0⟩, ?_⟩
  rintro i m σ' H' ⟨rfl, hi, ow', ρ', r', ii⟩
  by_cases hlt : i < items.length
  · refine .inr ⟨j.go i H' hlt (Same.trans r'.bs hid_le), fun σ2 H2 => ∃ ow2 ρ2, Rel N.K N.c w H0 (dh w ow H1) ow2 H2 σ2 ρ2 ∧ I (i + 1) ρ2, fun σ2 H2 q => ⟨_, by omega, rfl, by omega, q⟩, fun x H2 y => ?_⟩
    have ed : items[i]? = some items[i] := by simp [hlt]
    obtain ⟨s2, rp⟩ := j.yld i H' x H2 _ ed (Same.trans r'.bs hid_le) y
    have r2 := r'.same s2
    refine hg w H0 _ ow' H2 σ' ρ' x _ _ _ r2 (rp _ r'.occ r'.bs) (st i _ ρ' ed ii) fun σ3 ρ3 r3 _ q3 => ?_
    exact hb w H0 _ (aw.re base) ow' H2 σ3 ρ3 _ { D' with nx := I (i + 1), ct := I (i + 1), bk := D'.nx } ⟨fun ow4 H4 σ4 ρ4 r4 q4 => ⟨ow4, ρ4, r4, q4⟩, fun ow4 H4 σ4 ρ4 r4 q4 => a.nx _ _ _ _ (r4.re base) q4, fun ow4 H4 σ4 ρ4 r4 q4 => ⟨ow4, ρ4, r4, q4⟩, fun ow4 H4 σ4 ρ4 v d r4 h4 q4 => a.rt _ _ _ _ _ _ (r4.re base) h4 q4⟩ r3 q3
  · have e : i = items.length := by omega
    subst e
    exact .inl ⟨j.stop _ H' rfl (Same.trans r'.bs hid_le), a.nx _ _ _ _ (r'.re base) (fin ρ' ii)⟩
theorem sim_while {t : TT} {p : PTe} {tb : TS} {pb : PSt} (ht : SimT N t p) (hb : SimS N tb pb) : SimS N (tWhile t tb) (pWhile p pb) := by
  intro w H0 B aw ow H σ ρ D D' a r ⟨I, ⟨m0, i0⟩, st⟩
  refine ⟨fun m σ' H' => ∃ ow' ρ', Rel N.K N.c w H0 B ow' H' σ' ρ' ∧ I m ρ', ⟨m0, ow, ρ, r, i0⟩, ?_⟩
  rintro m σ' H' ⟨ow', ρ', r', ii⟩
  refine ht w H0 B aw ow' H' σ' ρ' _ _ r' (st m ρ' ii) fun b H2 r2 x2 q2 => ?_
  cases b with
  | true =>
    refine z_iteT ⟨fun σ3 H3 => ∃ m', m' < m ∧ ∃ ow3 ρ3, Rel N.K N.c w H0 B ow3 H3 σ3 ρ3 ∧ I m' ρ3, fun σ3 H3 h => h, ?_⟩
    refine hb w H0 B aw ow' H2 σ' ρ' _ { D' with nx := fun ρ' => ∃ m', m' < m ∧ I m' ρ', ct := fun ρ' => ∃ m', m' < m ∧ I m' ρ', bk := D'.nx } ⟨fun ow4 H4 σ4 ρ4 r4 ⟨m', l, q4⟩ => ⟨m', l, ow4, ρ4, r4, q4⟩, fun ow4 H4 σ4 ρ4 r4 q4 => a.nx _ _ _ _ r4 q4, fun ow4 H4 σ4 ρ4 r4 ⟨m', l, q4⟩ => ⟨m', l, ow4, ρ4, r4, q4⟩, fun ow4 H4 σ4 ρ4 v d r4 h4 q4 => a.rt _ _ _ _ _ _ r4 h4 q4⟩ r2 (by simpa using q2)
  | false => exact z_iteF (a.nx _ _ _ _ r2 (by simpa using q2))
end

/-! ### fresh lists -/
def SimF (N : Cn) (t : TE) (p : PAr) : Prop := ∀ w H0 B, AdW N w H0 B → ∀ ow H σ ρ Q (Q' : List Da → Prop), Rel N.K N.c w H0 B ow H σ ρ → p ρ Q' → (∀ a vs l H', Rel N.K N.c w H0 B ((ρ.length, a) :: ow) H' σ ρ → Ex w.S H H' → H a = none → H' a = some (.lst vs) → RpA N.K N.c w.st (dh w ((ρ.length, a) :: ow) H') vs l → Q' l → Q (.ref a) H') → t σ H Q
section
variable {N : Cn} {w : Pw} {H0 B H H' : Hp} {ow : Ow} {σ : L2.St} {ρ : PEnv}
theorem Rel.sub {ow' : Ow} (r : Rel N.K N.c w H0 B ow H σ ρ) (h1 : ∀ p ∈ ow', p ∈ ow) (h2 : ∀ i x, ρ[i]? = some (some x) → SlotOk N.K N.c w ow' H σ i x) : Rel N.K N.c w H0 B ow' H σ ρ := by
  have hsub : ∀ a, a ∈ hl w ow' → a ∈ hl w ow := fun a ha => by
    rcases List.mem_append.mp ha with ha | ha
    · obtain ⟨p, hp, rfl⟩ := List.mem_map.mp ha
      exact List.mem_append_left _ (List.mem_map_of_mem (h1 p hp))
    · exact List.mem_append_right _ ha
  exact ⟨fun a ha => r.occ a (hsub a ha), r.dr, fun p hp => r.nd p (h1 p hp), fun p hp q hq => r.inj p (h1 p hp) q (h1 q hq), r.fr, fun p hp => r.fr2 p (h1 p hp), r.len, h2, Same.trans r.bs (hid_sub hsub)⟩
theorem dh_sub {ow' : Ow} (h1 : ∀ p ∈ ow', p ∈ ow) : Same (dh w ow H) (dh w ow' H) := hid_sub fun a ha => by
  rcases List.mem_append.mp ha with ha | ha
  · obtain ⟨p, hp, rfl⟩ := List.mem_map.mp ha
    exact List.mem_append_left _ (List.mem_map_of_mem (h1 p hp))
  · exact List.mem_append_right _ ha
theorem get_lt {i : Nat} {x : Pv} (h : ρ[i]? = some (some x)) : i < ρ.length := (List.getElem?_eq_some_iff.mp h).1
/-- what was hidden comes out -/
theorem Rel.unhide {a : Addr} (r : Rel N.K N.c w H0 B ((ρ.length, a) :: ow) H σ ρ) : Rel N.K N.c w H0 B ow H σ ρ := by
  refine r.sub (fun p hp => List.mem_cons_of_mem _ hp) fun i x e => ?_
  have lt := get_lt e
  have k := r.sl i x e
  have s : Same (dh w ((ρ.length, a) :: ow) H) (dh w ow H) := dh_sub fun p hp => List.mem_cons_of_mem _ hp
  have mem : ∀ {b : Addr}, (i, b) ∈ (ρ.length, a) :: ow → (i, b) ∈ ow := fun {b} hb => by
    rcases List.mem_cons.mp hb with z | z
    · injection z with z1 z2; omega
    · exact z
  cases x with
  | d x => obtain ⟨v, e, rr⟩ := k; exact ⟨v, e, rpS s rr⟩
  | own l => obtain ⟨b, vs, m, e, eh, rr⟩ := k; exact ⟨b, vs, mem m, e, eh, rpsS s rr⟩
  | obj x gs ks l => obtain ⟨b, dx, vs, m, e, ok, eh, hl, rr⟩ := k; exact ⟨b, dx, vs, mem m, e, ok, eh, hl, rpsS s rr⟩
theorem Rel.notIn {a : Addr} {j : Nat} (r : Rel N.K N.c w H0 B ((j, a) :: ow) H σ ρ) (h : ∀ p ∈ ow, p.2 ≠ a) : a ∉ hl w ow := fun m => by
  rcases List.mem_append.mp m with m | m
  · obtain ⟨p, hp, e⟩ := List.mem_map.mp m; exact h p hp e
  · exact (r.nd _ (List.mem_cons_self ..)).2 m
/-- a fresh list as data -/
theorem sim_ofF {t : TE} {p : PAr} (h : SimF N t p) : SimE N t (fun ρ Q => p ρ fun l => Q (.lst l)) := by
  intro w H0 B aw ow H σ ρ Q Q' r z k
  refine h w H0 B aw ow H σ ρ _ _ r z fun a vs l H1 r1 x1 ha e1 h1 q1 => ?_
  have nin : a ∉ hl w ow := r.occ.no ha
  exact k _ _ H1 r1.unhide x1 (.lst (hid_lk nin e1) (rpsS (dh_sub fun p hp => List.mem_cons_of_mem _ hp) h1)) q1
theorem simF_lst {t : TA} {p : PAr} (ht : SimA N t p) : SimF N (tLst t) (fun ρ Q => p ρ fun ds => ds.length ≤ 100000 ∧ Q ds) := by
  intro w H0 B aw ow H σ ρ Q Q' r h k
  refine ht w H0 B aw ow H σ ρ _ _ r h fun vs ds H1 r1 s1 h1 ⟨l, q1⟩ => ⟨Nat.le_trans (by rw [rpsLen h1]; exact l) (by decide), fun a ha => ?_⟩
  have h0 : H a = none := by
    cases e : H a with
    | none => rfl
    | some o =>
      by_cases q : ∃ st L, w.S = some (st, L) ∧ a = st
      · obtain ⟨st, L, e, rfl⟩ := q
        obtain ⟨o', e'⟩ := (s1.2 _ _ e).occ; rw [ha] at e'; cases e'
      · have := s1.1 a o (fun st L z1 z2 => q ⟨st, L, z1, z2⟩) e; rw [ha] at this; cases this
  exact k a vs ds _ (r1.hide ha) (Ex.trans s1 (r1.exOf (Same.new ha (Same.refl _)))) h0 upd_same (RpA.hide ha h1 (Same.new ha (Same.refl _))) q1
theorem Ex.none {S : Option (Addr × Addr)} {a : Addr} (x : Ex S H H') (h : H' a = none) : H a = none := by
  cases e : H a with
  | none => rfl
  | some o =>
    by_cases q : ∃ st L, S = some (st, L) ∧ a = st
    · obtain ⟨st, L, e, rfl⟩ := q
      obtain ⟨o', e'⟩ := (x.2 _ _ e).occ; rw [h] at e'; cases e'
    · have := x.1 a o (fun st L z1 z2 => q ⟨st, L, z1, z2⟩) e; rw [h] at this; cases this
/-! ### comprehensions -/
def wipeP (ρ : PEnv) : List Nat → PEnv
  | [] => ρ
  | v :: vs => (wipeP ρ vs).set v none
theorem wipeP_len {us : List Nat} : (wipeP ρ us).length = ρ.length := by
  induction us with
  | nil => rfl
  | cons u us ih => unfold wipeP; rw [List.length_set, ih]
theorem Rel.wipe (r : Rel N.K N.c w H0 B ow H σ ρ) : ∀ us : List Nat, Rel N.K N.c w H0 B ow H (L2.wipe σ us) (wipeP ρ us)
  | [] => r
  | u :: us => (r.wipe us).drop u none
def pComp (l : List Da) (g : PTg) (t : PTe) (e : PEx) (us : List Nat) : PAr := fun ρ Q => l.length ≤ 90000 ∧ ∃ R : Nat → List Da → Prop, R 0 [] ∧ (∀ i x acc, l[i]? = some x → R i acc → g x (wipeP ρ us) fun ρ2 => t ρ2 fun b => if b = true then e ρ2 fun y => R (i + 1) (acc ++ [y]) else R (i + 1) acc) ∧ ∀ acc, R l.length acc → Q acc
def pLcF (pi : PIt) (g : PTg) (t : PTe) (e : PEx) (us : List Nat) : PAr := fun ρ Q => pi ρ fun l => pComp l g t e us ρ Q
def pLc (pi : PIt) (g : PTg) (t : PTe) (e : PEx) (us : List Nat) : PEx := fun ρ Q => pLcF pi g t e us ρ fun l => Q (.lst l)
def pYes : PTe := fun _ Q => Q true
theorem sim_yes : SimT N tYes pYes := fun w H0 B aw ow H σ ρ Q Q' r h k => k true H r r.x0 h
theorem simF_lc {wi : TI} {pi : PIt} {g : TG} {sl : List Nat} {pg : PTg} {tt : TT} {pt : PTe} {te : TE} {pe : PEx} {us : List Nat} (hi : SimI N wi pi) (hg : SimG N g sl pg) (hs : ∀ i ∈ sl, i ∈ us) (ht : SimT N tt pt) (he : SimE N te pe) : SimF N (tLc wi g tt te us) (pLcF pi pg pt pe us) := by
  intro w H0 B aw ow H σ ρ Q Q' r z k
  refine hi w H0 B aw ow H σ ρ _ _ r z fun J items H1 r1 x1 j ⟨hn, R, i0, st, fin⟩ D hD => ?_
  refine ⟨fun i m H' => m = items.length - i ∧ i ≤ items.length ∧ Rel N.K N.c w H0 B ((ρ.length, D) :: ow) H' σ ρ ∧ Ex w.S H1 H' ∧ ∃ acc ds, H' D = some (.lst acc) ∧ RpA N.K N.c w.st (dh w ((ρ.length, D) :: ow) H') acc ds ∧ acc.length ≤ i ∧ R i ds, ⟨_, rfl, Nat.zero_le _, r1.hide hD, r1.exOf (Same.new hD (Same.refl _)), [], [], upd_same, .nil, Nat.le_refl _, i0⟩, ?_⟩
  have hG : ∀ H', Rel N.K N.c w H0 B ((ρ.length, D) :: ow) H' σ ρ → Ex w.S H1 H' → Same (dh w ow H1) (dh w ((ρ.length, D) :: ow) H') := fun H' r' x' => hid_of hD (x'.dh r1)
  rintro i m H' ⟨rfl, hi, r', x', acc, ds, eD, ra, la, ii⟩
  have s' := hG H' r' x'
  by_cases hlt : i < items.length
  · refine .inr ⟨j.go i H' hlt (Same.trans s' hid_le), fun H2 => Rel N.K N.c w H0 B ((ρ.length, D) :: ow) H2 σ ρ ∧ Ex w.S H1 H2 ∧ ∃ acc ds, H2 D = some (.lst acc) ∧ RpA N.K N.c w.st (dh w ((ρ.length, D) :: ow) H2) acc ds ∧ acc.length ≤ i + 1 ∧ R (i + 1) ds, fun H2 q => ⟨_, by omega, rfl, by omega, q⟩, fun x H2 y => ?_⟩
    have ed : items[i]? = some items[i] := by simp [hlt]
    obtain ⟨s2, rp⟩ := j.yld i H' x H2 _ ed (Same.trans s' hid_le) y
    have r2 := r'.same s2
    have x2 : Ex w.S H' H2 := r'.exOf s2
    refine hg w H0 B _ H2 _ _ x _ _ _ (r2.wipe us) (rp _ r'.occ s') (st i _ ds ed ii) fun σ3 ρ3 r3 w3 q3 => ⟨(w3 us hs).trans wipe_wipe, ?_⟩
    have notD : ∀ st L, w.S = some (st, L) → D ≠ st := r'.notSt (p := (ρ.length, D)) (List.mem_cons_self ..)
    refine ht w H0 B aw _ H2 σ3 ρ3 _ _ r3 q3 fun b H3 r4 x4 q4 => ?_
    cases b with
    | true =>
      refine z_iteT (he w H0 B aw _ H3 σ3 ρ3 _ _ r4 (by simpa using q4) fun v d H4 r5 x5 h5 q5 => ?_)
      have x04 : Ex w.S H' H4 := Ex.trans x2 (Ex.trans x4 x5)
      have e4 := x04.1 D _ notD eD
      have rr := r'.ex x04
      refine ⟨acc, e4, Nat.lt_of_lt_of_le (show acc.length < 100000 by omega) (by decide), ?_⟩
      have rw' := rr.write (o := .lst (acc ++ [v])) (List.mem_cons_self ..) (fun k' x e m => by
        have lt := get_lt e
        rcases List.mem_cons.mp m with z | z
        · injection z with z1 z2; omega
        · exact absurd (r'.inj _ (List.mem_cons_of_mem _ z) _ (List.mem_cons_self ..) rfl) (fun z' => by injection z' with z1 z2; omega))
      have ed : dh w ((ρ.length, D) :: ow) (upd H4 D (.lst (acc ++ [v]))) = dh w ((ρ.length, D) :: ow) H4 := hid_put (List.mem_cons_self ..)
      refine ⟨rw', ⟨fun a o n ea => ?_, fun st L e => ((rw'.dr st L e).1)⟩, _, _, upd_same, by rw [ed]; exact rpsApp (rpsS (x04.dh r') ra) (rpsOne h5), by simp; omega, q5⟩
      refine lk_ne (fun z => ?_) ((Ex.trans x' x04).1 a o n ea)
      subst z; rw [hD] at ea; cases ea
    | false =>
      have x03 : Ex w.S H' H3 := Ex.trans x2 x4
      exact z_iteF ⟨r'.ex x03, Ex.trans x' x03, acc, ds, x03.1 D _ notD eD, rpsS (x03.dh r') ra, by omega, by simpa using q4⟩
  · have e : i = items.length := by omega
    subst e
    exact .inl ⟨j.stop _ H' rfl (Same.trans s' hid_le), k D acc ds H' r' (Ex.trans x1 x') (x1.none hD) eD ra (fin ds ii)⟩
theorem sim_lc {wi : TI} {pi : PIt} {g : TG} {sl : List Nat} {pg : PTg} {tt : TT} {pt : PTe} {te : TE} {pe : PEx} {us : List Nat} (hi : SimI N wi pi) (hg : SimG N g sl pg) (hs : ∀ i ∈ sl, i ∈ us) (ht : SimT N tt pt) (he : SimE N te pe) : SimE N (tLc wi g tt te us) (pLc pi pg pt pe us) := sim_ofF (simF_lc hi hg hs ht he)
/-! ### a list of the def's own -/
theorem Rel.reown {a : Addr} {i : Nat} {vs : List V} {l : List Da} (r : Rel N.K N.c w H0 B ((ρ.length, a) :: ow) H σ ρ) (hn : a ∉ hl w ow) (e : H a = some (.lst vs)) (h : RpA N.K N.c w.st (dh w ((ρ.length, a) :: ow) H) vs l) : Rel N.K N.c w H0 B ((i, a) :: ow) H (σ.set i (some (.ref a))) (ρ.set i (some (.own l))) := by
  have eq : ∀ {H : Hp}, dh w ((i, a) :: ow) H = dh w ((ρ.length, a) :: ow) H := rfl
  have fresh : ∀ q ∈ ow, q.2 ≠ a := fun q hq z => hn (List.mem_append_left _ (z ▸ List.mem_map_of_mem hq))
  refine ⟨r.occ, r.dr, ?_, ?_, r.fr, ?_, by rw [List.length_set, List.length_set]; exact r.len, ?_, r.bs⟩
  · intro q hq
    rcases List.mem_cons.mp hq with rfl | hq
    · exact r.nd (ρ.length, a) (List.mem_cons_self ..)
    · exact r.nd q (List.mem_cons_of_mem _ hq)
  · intro q hq q' hq' z
    rcases List.mem_cons.mp hq with rfl | hq
    · rcases List.mem_cons.mp hq' with rfl | hq'
      · rfl
      · exact absurd z.symm (fresh q' hq')
    · rcases List.mem_cons.mp hq' with rfl | hq'
      · exact absurd z (fresh q hq)
      · exact r.inj q (List.mem_cons_of_mem _ hq) q' (List.mem_cons_of_mem _ hq') z
  · intro q hq
    rcases List.mem_cons.mp hq with rfl | hq
    · exact r.fr2 (ρ.length, a) (List.mem_cons_self ..)
    · exact r.fr2 q (List.mem_cons_of_mem _ hq)
  · intro j x ej
    rw [getElem?_set'] at ej
    by_cases q : i = j
    · subst q
      rw [if_pos rfl] at ej
      by_cases lt : i < ρ.length
      · rw [if_pos lt] at ej
        cases ej
        exact ⟨a, vs, List.mem_cons_self .., by rw [List.getElem?_set_self (by rw [r.len]; exact lt)], e, h⟩
      · rw [if_neg lt] at ej; cases ej
    · rw [if_neg q] at ej
      have lt := get_lt ej
      have k := r.sl j x ej
      have mem : ∀ {b : Addr}, (j, b) ∈ (ρ.length, a) :: ow → (j, b) ∈ (i, a) :: ow := fun {b} hb => by
        rcases List.mem_cons.mp hb with z | z
        · injection z with z1 z2; omega
        · exact List.mem_cons_of_mem _ z
      refine SlotOk.other ?_ q
      cases x with
      | d x => exact k
      | own l => obtain ⟨b, vs, m, e, eh, rr⟩ := k; exact ⟨b, vs, mem m, e, eh, rr⟩
      | obj x gs ks l => obtain ⟨b, dx, vs, m, e, ok, eh, hl, rr⟩ := k; exact ⟨b, dx, vs, mem m, e, ok, eh, hl, rr⟩
def pAsgO (i : Nat) (p : PAr) : PSt := fun D ρ => p ρ fun l => D.nx (ρ.set i (some (.own l)))
theorem sim_asgO {t : TE} {p : PAr} {i : Nat} (h : SimF N t p) : SimS N (tAsg t (gName i)) (pAsgO i p) := fun w H0 B aw ow H σ ρ D D' a r z =>
  h w H0 B aw ow H σ ρ _ _ r z fun b vs l H1 r1 x1 hb e1 h1 q1 => a.nx _ _ _ _ (r1.reown (r.occ.no hb) e1 h1) q1
/-- an own list is written -/
theorem Rel.putO {i : Nat} {a : Addr} {vs' : List V} {l' : List Da} (r : Rel N.K N.c w H0 B ow H σ ρ) (lt : i < ρ.length) (m : (i, a) ∈ ow) (e : σ[i]? = some (some (.ref a))) (h : RpA N.K N.c w.st (dh w ow H) vs' l') : Rel N.K N.c w H0 B ow (upd H a (.lst vs')) σ (ρ.set i (some (.own l'))) := by
  have hin : a ∈ hl w ow := List.mem_append_left _ (List.mem_map_of_mem (f := (·.2)) m)
  have ed : dh w ow (upd H a (.lst vs')) = dh w ow H := hid_put hin
  have r0 : Rel N.K N.c w H0 B ow H σ (ρ.set i none) := ⟨r.occ, r.dr, r.nd, r.inj, r.fr, r.fr2, by rw [List.length_set]; exact r.len, fun j x ej => by
    rw [getElem?_set'] at ej
    by_cases q : i = j
    · rw [if_pos q] at ej; split at ej <;> cases ej
    · rw [if_neg q] at ej; exact r.sl j x ej, r.bs⟩
  have r1 := r0.write (o := .lst vs') m (fun k x ek mk => by
    have := r0.inj _ mk _ m rfl
    injection this with z _
    subst z
    rw [getElem?_set', if_pos rfl] at ek
    split at ek <;> cases ek)
  refine ⟨r1.occ, r1.dr, r1.nd, r1.inj, r1.fr, r1.fr2, by rw [List.length_set]; exact r.len, fun j x ej => ?_, r1.bs⟩
  rw [getElem?_set'] at ej
  by_cases q : i = j
  · subst q
    rw [if_pos rfl, if_pos lt] at ej
    cases ej
    exact ⟨a, vs', m, e, upd_same, by rw [ed]; exact h⟩
  · rw [if_neg q] at ej
    exact r1.sl j x (by rw [getElem?_set', if_neg q]; exact ej)
def pApp (i : Nat) (e : PEx) : PSt := fun D ρ => ∃ l, ρ[i]? = some (some (.own l)) ∧ l.length < 100000 ∧ e ρ fun d => D.nx (ρ.set i (some (.own (l ++ [d]))))
theorem Rel.notSt' (r : Rel N.K N.c w H0 B ow H σ ρ) {i : Nat} {a : Addr} (m : (i, a) ∈ ow) : ∀ st L, w.S = some (st, L) → a ≠ st := r.notSt m
theorem sim_app {i : Nat} {t : TE} {p : PEx} (h : SimE N t p) : SimS N (tDrop (tBM N.K "list" rAppend (tVar i) (tCons t tNil))) (pApp i p) := by
  intro w H0 B aw ow H σ ρ D D' a r ⟨l, el, hl, z⟩
  obtain ⟨b, vs, m, es, eb, rl⟩ := r.sl i _ el
  refine ⟨.ref b, es, tyL eb, ?_⟩
  refine h w H0 B aw ow H σ ρ _ _ r z fun v d H1 r1 x1 h1 q1 => ?_
  refine ⟨b, vs, v, rfl, rfl, x1.1 b _ (r.notSt m) eb, Nat.lt_of_lt_of_le (show vs.length < 100000 by rw [rpsLen rl]; exact hl) (by decide), ?_⟩
  exact a.nx _ _ _ _ (r1.putO (get_lt el) m es (rpsApp (rpsS (x1.dh r) rl) (rpsOne h1))) q1
def pSetI (i : Nat) (pk pv : PEx) : PSt := fun D ρ => ∃ l, ρ[i]? = some (some (.own l)) ∧ pv ρ fun d => pk ρ fun e => ∃ k j, e = .int k ∧ ixN l.length k = some j ∧ D.nx (ρ.set i (some (.own (l.set j d))))
theorem sim_setI {i : Nat} {tk tv : TE} {pk pv : PEx} (hk : SimE N tk pk) (hv : SimE N tv pv) : SimS N (tAsg tv (gSub (tVar i) tk rSetL)) (pSetI i pk pv) := by
  intro w H0 B aw ow H σ ρ D D' a r ⟨l, el, z⟩
  obtain ⟨b, vs, m, es, eb, rl⟩ := r.sl i _ el
  refine hv w H0 B aw ow H σ ρ _ _ r z fun v d H1 r1 x1 h1 q1 => ?_
  refine ⟨.ref b, es, ?_⟩
  refine hk w H0 B aw ow H1 σ ρ _ _ r1 q1 fun u e H2 r2 x2 h2 ⟨k, j, ee, ej, q2⟩ => ?_
  subst ee; cases h2
  have x12 := Ex.trans x1 x2
  refine ⟨b, vs, k, j, rfl, rfl, x12.1 b _ (r.notSt m) eb, by rw [rpsLen rl]; exact ej, ?_⟩
  exact a.nx _ _ _ _ (r2.putO (get_lt el) m es (rpsSet j (rpsS (x12.dh r) rl) (rpS (x2.dh r1) h1))) q2
/-! ### from own to data, for good or for a moment -/
theorem Rel.frz {i : Nat} {l : List Da} (r : Rel N.K N.c w H0 B ow H σ ρ) (e : ρ[i]? = some (some (.own l))) : ∃ ow2, (∀ p ∈ ow2, p ∈ ow) ∧ Rel N.K N.c w H0 B ow2 H σ (ρ.set i (some (.d (.lst l)))) := by
  obtain ⟨a, vs, m, es, ea, rl⟩ := r.sl i _ e
  have sub : ∀ p ∈ ow.filter (fun p => p.2 != a), p ∈ ow := fun p hp => (List.mem_filter.mp hp).1
  have r0 : Rel N.K N.c w H0 B ow H σ (ρ.set i none) := ⟨r.occ, r.dr, r.nd, r.inj, r.fr, r.fr2, by rw [List.length_set]; exact r.len, fun j x ej => by
    rw [getElem?_set'] at ej
    by_cases q : i = j
    · rw [if_pos q] at ej; split at ej <;> cases ej
    · rw [if_neg q] at ej; exact r.sl j x ej, r.bs⟩
  have s : Same (dh w ow H) (dh w (ow.filter (fun p => p.2 != a)) H) := dh_sub sub
  have r1 : Rel N.K N.c w H0 B (ow.filter (fun p => p.2 != a)) H σ (ρ.set i none) := r0.sub sub fun j x ej => by
    have k := r0.sl j x ej
    have ne : i ≠ j := fun q => by subst q; rw [getElem?_set', if_pos rfl] at ej; split at ej <;> cases ej
    have mem : ∀ {b : Addr}, (j, b) ∈ ow → (j, b) ∈ ow.filter (fun p => p.2 != a) := fun {b} hb => List.mem_filter.mpr ⟨hb, by
      rw [bne_iff_ne]
      intro z
      have := r.inj _ hb _ m z
      injection this with z1 _
      exact ne z1.symm⟩
    cases x with
    | d x => obtain ⟨v, e, rr⟩ := k; exact ⟨v, e, rpS s rr⟩
    | own l => obtain ⟨b, vs, m, e, eh, rr⟩ := k; exact ⟨b, vs, mem m, e, eh, rpsS s rr⟩
    | obj x gs ks l => obtain ⟨b, dx, vs, m, e, ok, eh, hl, rr⟩ := k; exact ⟨b, dx, vs, mem m, e, ok, eh, hl, rpsS s rr⟩
  have nin : a ∉ hl w (ow.filter (fun p => p.2 != a)) := fun h => by
    rcases List.mem_append.mp h with h | h
    · obtain ⟨p, hp, e⟩ := List.mem_map.mp h
      have := (List.mem_filter.mp hp).2
      rw [bne_iff_ne] at this
      exact this e
    · exact (r.nd _ m).2 h
  refine ⟨_, sub, r1.occ, r1.dr, r1.nd, r1.inj, r1.fr, r1.fr2, by rw [List.length_set]; exact r.len, fun j x ej => ?_, r1.bs⟩
  rw [getElem?_set'] at ej
  by_cases q : i = j
  · subst q
    rw [if_pos rfl, if_pos (get_lt e)] at ej
    cases ej
    exact ⟨.ref a, es, .lst (hid_lk nin ea) (rpsS s rl)⟩
  · rw [if_neg q] at ej
    exact r1.sl j x (by rw [getElem?_set', if_neg q]; exact ej)
def pFrz (i : Nat) (p : PSt) : PSt := fun D ρ => ∃ l, ρ[i]? = some (some (.own l)) ∧ p D (ρ.set i (some (.d (.lst l))))
theorem sim_frz {t : TS} {p : PSt} {i : Nat} (h : SimS N t p) : SimS N t (pFrz i p) := fun w H0 B aw ow H σ ρ D D' a r ⟨l, e, z⟩ => by
  obtain ⟨ow2, _, r2⟩ := r.frz e
  exact h w H0 B aw ow2 H σ _ D D' a r2 z
def pBor (i : Nat) (p : PEx) : PEx := fun ρ Q => ∃ l, ρ[i]? = some (some (.own l)) ∧ p (ρ.set i (some (.d (.lst l)))) fun d => flD d = true ∧ Q d
def pBorT (i : Nat) (p : PTe) : PTe := fun ρ Q => ∃ l, ρ[i]? = some (some (.own l)) ∧ p (ρ.set i (some (.d (.lst l)))) Q
theorem flat_rp {K : PySem.W.Frag} {c : CEnv} {S : Option Addr} {G G' : Hp} {v : V} {d : Da} (h : Rp K c S G v d) (f : flD d = true) : Rp K c S G' v d := by
  cases d <;> first | (cases f; done) | (cases h; constructor)
/-- nothing is raised while something is lent -/
theorem sim_bor {t : TE} {p : PEx} {i : Nat} (h : SimE ⟨N.K, N.c, W0, fun _ _ => False⟩ t p) : SimE N t (pBor i p) := by
  intro w H0 B aw ow H σ ρ Q Q' r ⟨l, e, z⟩ k
  obtain ⟨ow2, sub, r2⟩ := Rel.frz (N := N) r e
  refine h w H0 B (fun _ _ _ _ _ _ f => f.elim) ow2 H σ _ _ _ r2 z fun v d H1 r1 x1 h1 ⟨f, q1⟩ => ?_
  exact k v d H1 (r.ex x1) x1 (flat_rp h1 f) q1
theorem sim_borT {t : TT} {p : PTe} {i : Nat} (h : SimT ⟨N.K, N.c, W0, fun _ _ => False⟩ t p) : SimT N t (pBorT i p) := by
  intro w H0 B aw ow H σ ρ Q Q' r ⟨l, e, z⟩ k
  obtain ⟨ow2, sub, r2⟩ := Rel.frz (N := N) r e
  refine h w H0 B (fun _ _ _ _ _ _ f => f.elim) ow2 H σ _ _ _ r2 z fun b H1 r1 x1 q1 => ?_
  exact k b H1 (r.ex x1) x1 q1
/-! ### self while it is made -/
def putK (f : Str) : List Str → List Str
  | [] => [f]
  | k :: ks => if k = f then k :: ks else k :: putK f ks
def putL {α : Type} (f : Str) (d : α) : List Str → List α → List α
  | [], _ => [d]
  | _ :: _, [] => []
  | k :: ks, x :: l => if k = f then d :: l else x :: putL f d ks l
theorem putF_zip {f : Str} {v : V} : ∀ {ks : List Str} {vs : List V}, vs.length = ks.length → putF f v (ks.zip vs) = (putK f ks).zip (putL f v ks vs)
  | [], vs, h => by rw [List.zip_nil_left]; rfl
  | k :: ks, [], h => by simp at h
  | k :: ks, x :: vs, h => by
    rw [List.zip_cons_cons]
    unfold putF putK putL
    by_cases e : k = f
    · rw [if_pos e, if_pos e, if_pos e, List.zip_cons_cons]
    · rw [if_neg e, if_neg e, if_neg e, List.zip_cons_cons, putF_zip (by simpa using h)]
theorem putL_len {α : Type} {f : Str} {d : α} : ∀ {ks : List Str} {l : List α}, l.length = ks.length → (putL f d ks l).length = (putK f ks).length
  | [], l, h => by unfold putL putK; rfl
  | k :: ks, [], h => by simp at h
  | k :: ks, x :: l, h => by
    unfold putL putK
    by_cases e : k = f
    · rw [if_pos e, if_pos e]; simpa using h
    · rw [if_neg e, if_neg e, List.length_cons, List.length_cons, putL_len (by simpa using h)]
theorem putL_rp {K : PySem.W.Frag} {c : CEnv} {S : Option Addr} {G : Hp} {f : Str} {v : V} {d : Da} (h : Rp K c S G v d) : ∀ {ks : List Str} {vs : List V} {l : List Da}, RpA K c S G vs l → RpA K c S G (putL f v ks vs) (putL f d ks l)
  | [], vs, l, r => by unfold putL; exact rpsOne h
  | k :: ks, vs, [], r => by rw [rps0 r]; unfold putL; exact .nil
  | k :: ks, vs, x :: l, r => by
    obtain ⟨u, ws, rfl, a, b⟩ := rpsC r
    unfold putL
    by_cases e : k = f
    · rw [if_pos e, if_pos e]; exact .cons h b
    · rw [if_neg e, if_neg e]; exact .cons a (putL_rp h b)
def pSetF (i : Nat) (f : Str) (e : PEx) : PSt := fun D ρ => ∃ x gs ks l, ρ[i]? = some (some (.obj x gs ks l)) ∧ gs.contains f = true ∧ ks.length < 1000 ∧ e ρ fun d => D.nx (ρ.set i (some (.obj x gs (putK f ks) (putL f d ks l))))
theorem zip_len {α β : Type} {a : List α} {b : List β} (h : b.length = a.length) : (a.zip b).length = a.length := by rw [List.length_zip, h, Nat.min_self]
theorem sim_setF {i : Nat} {f : Str} {t : TE} {p : PEx} (h : SimE N t p) : SimS N (sFld N.K (tVar i) t f) (pSetF i f p) := by
  intro w H0 B aw ow H σ ρ D D' a r ⟨x, gs, ks, l, el, hc, hk, z⟩
  obtain ⟨b, dx, vs, m, es, ok, eb, hl, rl⟩ := r.sl i _ el
  refine h w H0 B aw ow H σ ρ _ _ r z fun v d H1 r1 x1 h1 q1 => ?_
  have lv := rpsLen rl
  refine ⟨.ref b, es, ?_⟩
  refine z_set ok.1 (x1.1 b _ (r.notSt m) eb) hc (by rw [zip_len (by omega)]; exact hk) ?_
  rw [putF_zip (by omega)]
  have rv := putL_rp (f := f) (ks := ks) h1 (rpsS (x1.dh r) rl)
  have hin : b ∈ (ow.map (·.2) ++ w.O) := List.mem_append_left _ (List.mem_map_of_mem (f := (·.2)) m)
  have ed : ∀ o, dh w ow (upd H1 b o) = dh w ow H1 := fun o => hid_put hin
  have lt := get_lt el
  have r0 : Rel N.K N.c w H0 B ow H1 σ (ρ.set i none) := ⟨r1.occ, r1.dr, r1.nd, r1.inj, r1.fr, r1.fr2, by rw [List.length_set]; exact r1.len, fun j x ej => by
    rw [getElem?_set'] at ej
    by_cases q : i = j
    · rw [if_pos q] at ej; split at ej <;> cases ej
    · rw [if_neg q] at ej; exact r1.sl j x ej, r1.bs⟩
  have r2 := r0.write (o := .ins (N.c.cls x) dx ((putK f ks).zip (putL f v ks vs))) m (fun k x ek mk => by
    have := r0.inj _ mk _ m rfl
    injection this with z _
    subst z
    rw [getElem?_set', if_pos rfl] at ek
    split at ek <;> cases ek)
  refine a.nx ow _ _ _ ⟨r2.occ, r2.dr, r2.nd, r2.inj, r2.fr, r2.fr2, by rw [List.length_set]; exact r.len, fun j x ej => ?_, r2.bs⟩ q1
  rw [getElem?_set'] at ej
  by_cases q : i = j
  · subst q
    rw [if_pos rfl, if_pos lt] at ej
    cases ej
    exact ⟨b, dx, _, m, es, ok, upd_same, putL_len hl, by rw [ed]; exact rv⟩
  · rw [if_neg q] at ej
    exact r2.sl j x (by rw [getElem?_set', if_neg q]; exact ej)
def pFldO (i : Nat) (f : Str) : PEx := fun ρ Q => ∃ x gs ks l y, ρ[i]? = some (some (.obj x gs ks l)) ∧ gs.contains f = true ∧ (ks.zip l).lookup f = some y ∧ Q y
theorem sim_fldO {i : Nat} {f : Str} : SimE N (tFld N.K (tVar i) f) (pFldO i f) := by
  intro w H0 B aw ow H σ ρ Q Q' r ⟨x, gs, ks, l, y, el, hc, lk, q⟩ k
  obtain ⟨b, dx, vs, m, es, ok, eb, hl, rl⟩ := r.sl i _ el
  obtain ⟨_, u, lu, ru⟩ := zip_lookup rl lk
  exact ⟨.ref b, es, z_fld ok.1 eb lu hc (k.flat r ru q)⟩
end

/-! list.count of flat values -/
def rCountF (K : PySem.W.Frag) : V → List V → Hp → VK → Prop := fun x xs H Q => ∃ (a : Addr) (ys : List V) (y : V), x = V.ref a ∧ xs = [y] ∧ SqL K H a ys ∧ flatV y = true ∧ ys.all flatV = true ∧ Q (.int (ys.countP (fun z => eqV z y) : Nat)) H
theorem countP_eqU {y : V} : ∀ {ys : List V} {us : List Value}, Vals ys us → ys.all flatV = true → us.countP (eqU y) = ys.countP (fun z => eqV z y)
  | _, _, .nil, _ => rfl
  | _, _, .cons r t, h => by
    rw [List.all_cons, Bool.and_eq_true] at h
    rw [List.countP_cons, List.countP_cons, countP_eqU t h.2, eqU_of r h.1]
theorem mt_countF {X : Cx} : MtR X "list.count" (rCountF X.K) := by
  intro pins s σ H x xs v us Q I rx rxs h
  obtain ⟨a, ys, y, rfl, rfl, hs, fy, fys, q⟩ := h
  cases rx
  cases rxs with
  | cons ry rt =>
    rename_i uy ut
    cases rt
    obtain ⟨its, rv, ⟨⟨cls, dd, data, sl⟩, n, ho, hc, hdn, hd⟩, hlen⟩ := I.list hs
    simp only at hc hd
    subst hc hd
    refine call_meets PySem.F.slot_list_count ⟨_, ho, rfl⟩ PySem.F.entry_list_count (PySem.F.args_list_count_2 _ _)
      (SeqAt.list_countAt a its.toArray n dd sl uy (eqU y)) ⟨ho, fun u' hu' => mem_eqAt ry fy rv fys u' (by simpa using hu'), ?_⟩
    have ec : its.toArray.toList.countP (eqU y) = ys.countP (fun z => eqV z y) := countP_eqU rv fys
    refine ⟨.int (ys.countP (fun z => eqV z y) : Nat), H, I.tok _, ⟨s.toks, ?_⟩, q⟩
    show Value.int ((its.toArray.toList.countP (eqU y) : Nat) : Int) s.toks = _
    rw [ec]

section
variable {N : Cn} {w : Pw} {H0 B H H' : Hp} {ow : Ow} {σ : L2.St} {ρ : PEnv}
/-! ### try -/
def pTry (x : Str) (ys : List Str) (pb : WP → PSt) (ps : PSt) (Wo : WP) : PSt := fun D ρ => pb (fun y ρ' => y ∈ ys ∧ if SUB y x = true then ps D ρ' else Wo y ρ') D ρ
theorem sim_try {K : PySem.W.Frag} {c : CEnv} {W : WX} {Wp : WP} {x : Str} {ys : List Str} {tb : WX → TS} {pb : WP → PSt} {ts : TS} {ps : PSt} (hb : ∀ W Wp, SimS ⟨K, c, W, Wp⟩ (tb W) (pb Wp)) (hs : SimS ⟨K, c, W, Wp⟩ ts ps) : SimS ⟨K, c, W, Wp⟩ (sTry K c x ys tb ts W) (pTry x ys pb ps Wp) := by
  intro w H0 B aw ow H σ ρ D D' a r z he
  refine hb _ _ w H0 B (fun y ow' H' σ' ρ' r' ⟨hy, q⟩ => ?_) ow H σ ρ D D' ⟨fun ow H σ ρ r q => a.nx _ _ _ _ r q, fun ow H σ ρ r q => a.bk _ _ _ _ r q, fun ow H σ ρ r q => a.ct _ _ _ _ r q, fun ow H σ ρ v d r h q => a.rt _ _ _ _ _ _ r h q⟩ r z
  refine ⟨SUB y x, he y hy, fun e b hb' => ?_, fun e => ?_⟩
  · rw [if_pos e] at q
    exact hs w H0 B aw ow' H' σ' ρ' D D' a r' q
  · rw [if_neg (by rw [e]; exact Bool.false_ne_true)] at q
    exact aw y ow' H' σ' ρ' r' q
/-! ### constants of the module -/
def dvD : DV → Da
  | .v .non => .non | .v (.bl b) => .bl b | .v (.int i) => .int i | .v (.str x) => .str x | .v _ => .non
  | .t xs => .tup (xs.map fun v => match v with | .non => .non | .bl b => .bl b | .int i => .int i | .str x => .str x | _ => .non)
def vD : V → Da | .non => .non | .bl b => .bl b | .int i => .int i | .str x => .str x | _ => .non
theorem flat_vD {K : PySem.W.Frag} {c : CEnv} {S : Option Addr} {G : Hp} {v : V} (h : flatV v = true) : Rp K c S G v (vD v) := by
  cases v <;> first | (cases h; done) | constructor
theorem flats_vD {K : PySem.W.Frag} {c : CEnv} {S : Option Addr} {G : Hp} : ∀ {vs : List V}, vs.all flatV = true → RpA K c S G vs (vs.map vD)
  | [], _ => .nil
  | v :: vs, h => by rw [List.all_cons, Bool.and_eq_true] at h; exact .cons (flat_vD h.1) (flats_vD h.2)
def pCstT (xs : List V) : PEx := fun _ Q => Q (.tup (xs.map vD))
theorem sim_cstT {xs : List V} (h : xs.all flatV = true := by rfl) : SimE N (tCstT N.K xs) (pCstT xs) := fun w H0 B aw ow H σ ρ Q Q' r q k => fun T e => k.flat r (.tup (e _) (flats_vD h)) q
/-! ### methods of lists -/
def pIndex : Da → List Da → (Da → Prop) → Prop := fun x ys Q => match x, ys with
  | .lst l, [y] => ∃ j z, flD y = true ∧ l.all flD = true ∧ l[j]? = some z ∧ eqD z y = true ∧ (∀ m u, m < j → l[m]? = some u → eqD u y = false) ∧ Q (.int (j : Nat))
  | _, _ => False
def pCount : Da → List Da → (Da → Prop) → Prop := fun x ys Q => match x, ys with
  | .lst l, [y] => flD y = true ∧ l.all flD = true ∧ Q (.int (l.countP (fun z => eqD z y) : Nat))
  | _, _ => False
def SimM (N : Cn) (r : V → List V → Hp → VK → Prop) (q : Da → List Da → (Da → Prop) → Prop) : Prop := ∀ w H0 B ow H σ ρ x dx ys ds Q Q', Rel N.K N.c w H0 B ow H σ ρ → Rp N.K N.c w.st (dh w ow H) x dx → RpA N.K N.c w.st (dh w ow H) ys ds → q dx ds Q' → Post N w H0 B ow H σ ρ Q' Q → r x ys H Q
def pBM (q : Da → List Da → (Da → Prop) → Prop) (a : PEx) (t : PAr) : PEx := fun ρ Q => a ρ fun x => (∃ l, x = .lst l) ∧ t ρ fun ys => q x ys Q
theorem sim_bm {r : V → List V → Hp → VK → Prop} {q : Da → List Da → (Da → Prop) → Prop} {a : TE} {t : TA} {p : PEx} {pt : PAr} (hr : SimM N r q) (ha : SimE N a p) (ht : SimA N t pt) : SimE N (tBM N.K "list" r a t) (pBM q p pt) := by
  intro w H0 B aw ow H σ ρ Q Q' rr h k
  refine ha w H0 B aw ow H σ ρ _ _ rr h fun x dx H1 r1 s1 h1 ⟨⟨l, e⟩, q1⟩ => ?_
  subst e
  have h1' := h1
  obtain ⟨b, xs, rfl, eb, rb⟩ := rpL h1
  refine ⟨tyL (hid_le _ _ eb), ht w H0 B aw ow H1 σ ρ _ _ r1 q1 fun ys ds H2 r2 s2 h2 q2 => ?_⟩
  exact hr w H0 B ow H2 σ ρ _ _ ys ds Q Q' r2 (rpS (s2.dh r1) h1') h2 q2 (k.then (Ex.trans s1 s2) fun _ q => q)
theorem simM_index : SimM N (rIndex N.K) pIndex := by
  intro w H0 B ow H σ ρ x dx ys ds Q Q' r hx hy h k
  unfold pIndex at h
  split at h
  · rename_i l y
    obtain ⟨j, z, fy, fl, ez, eq', hm, q⟩ := h
    obtain ⟨v, rfl, a⟩ := rps1 hy
    obtain ⟨p, xs, rfl, e, rr⟩ := rpL hx
    obtain ⟨u, eu, ru⟩ := rpsGet rr ez
    have fz : flD z = true := all_get fl ez
    refine ⟨p, xs, v, j, u, rfl, rfl, SqL.of (hid_le _ _ e), flV_of a fy, flVs_of rr fl, eu, by rw [eqV_of ru a fz fy]; exact eq', fun m u' hmj hu' => ?_, k.flat r (.int _) q⟩
    obtain ⟨d', ed', rd'⟩ := rpsGetV rr hu'
    rw [eqV_of rd' a (all_get fl ed') fy]
    exact hm m d' hmj ed'
  · exact h.elim
theorem countP_of {K : PySem.W.Frag} {c : CEnv} {S : Option Addr} {G : Hp} {v : V} {d : Da} (h : Rp K c S G v d) (f : flD d = true) : ∀ {vs : List V} {ds : List Da}, RpA K c S G vs ds → ds.all flD = true → vs.countP (fun z => eqV z v) = ds.countP (fun z => eqD z d)
  | _, [], r, _ => by rw [rps0 r]; rfl
  | _, e :: ds, r, g => by
    obtain ⟨u, ws, rfl, a, b⟩ := rpsC r
    rw [List.all_cons, Bool.and_eq_true] at g
    rw [List.countP_cons, List.countP_cons, eqV_of a h g.1 f, countP_of h f b g.2]
theorem simM_count : SimM N (rCountF N.K) pCount := by
  intro w H0 B ow H σ ρ x dx ys ds Q Q' r hx hy h k
  unfold pCount at h
  split at h
  · obtain ⟨fy, fl, q⟩ := h
    obtain ⟨v, rfl, a⟩ := rps1 hy
    obtain ⟨p, xs, rfl, e, rr⟩ := rpL hx
    exact ⟨p, xs, v, rfl, rfl, SqL.of (hid_le _ _ e), flV_of a fy, flVs_of rr fl, by rw [countP_of a fy rr fl]; exact k.flat r (.int _) q⟩
  · exact h.elim
def pLenSet (a : PEx) : PEx := fun ρ Q => a ρ fun x => ∃ ns : List Int, x = .lst (ns.map Da.int) ∧ ns.length ≤ 4000 ∧ Q (.int (setN ns : Nat))
theorem sim_lenSet {t : TE} {p : PEx} (h : SimE N t p) : SimE N (tLenSet N.K t) (pLenSet p) := by
  intro w H0 B aw ow H σ ρ Q Q' r z k
  refine h w H0 B aw ow H σ ρ _ _ r z fun v d H1 r1 s1 h1 ⟨ns, e, hl, q⟩ => ?_
  subst e
  obtain ⟨p, xs, rfl, e, rr⟩ := rpL h1
  obtain rfl := rpsI rr
  exact ⟨p, ns, rfl, SqL.of (hid_le _ _ e), hl, k _ _ H1 r1 s1 (.int _) q⟩
end
/-! ### a def keeps a promise about data -/
def startP (n : Nat) (ds : List Da) : PEnv := ds.map (fun d => some (.d d)) ++ List.replicate (n - ds.length) none
section
variable {K : PySem.W.Frag} {c : CEnv}
theorem start_rel {S : Option (Addr × Addr)} {O : List Addr} {H : Hp} {vs : List V} {ds : List Da} {Nn : List Str} (oc : Occ H O) (dr : ∀ st L, S = some (st, L) → Draw H st L ∧ st ∈ O) (r : RpA K c (S.map (·.1)) (hid H O) vs ds) :
    Rel K c ⟨S, O, (S.map (·.1)).toList, none⟩ H (hid H O) [] H (L2.start Nn vs) (startP Nn.length ds) := by
  refine ⟨oc, fun st L e => ?_, fun p h => by (cases h), fun p h => by (cases h), fun a o _ e => e, fun p h => by (cases h), ?_, fun i x e => ?_, Same.refl _⟩
  · have e : S = some (st, L) := e
    refine ⟨(dr st L e).1, (dr st L e).2, ?_⟩
    subst e; simp
  · unfold L2.start startP
    simp [rpsLen r]
  · unfold startP at e
    have hl := rpsLen r
    rw [List.getElem?_append] at e
    split at e
    · rename_i lt
      rw [List.length_map] at lt
      rw [List.getElem?_map] at e
      cases ed : ds[i]? with
      | none => rw [ed] at e; cases e
      | some d =>
        rw [ed] at e
        cases e
        obtain ⟨v, ev, rv⟩ := rpsGet r ed
        refine ⟨v, ?_, rv⟩
        unfold L2.start
        rw [List.getElem?_append_left (by rw [List.length_map]; omega), List.getElem?_map, ev]; rfl
    · rw [List.getElem?_replicate] at e
      split at e <;> cases e
theorem Rel.exO {S : Option (Addr × Addr)} {O : List Addr} {H0 B H : Hp} {ow : Ow} {σ : L2.St} {ρ : PEnv} (r : Rel K c ⟨S, O, (S.map (·.1)).toList, none⟩ H0 B ow H σ ρ) : Ex S H0 H := by
  refine ⟨fun a o n e => r.fr a o (fun m => ?_) e, fun st L e => (r.dr st L e).1⟩
  cases S with
  | none => simp at m
  | some z => obtain ⟨st, L⟩ := z; simp at m; exact n st L rfl m
theorem out_rp {S : Option (Addr × Addr)} {O M : List Addr} {H : Hp} {ow : Ow} {v : V} {d : Da} (h : Rp K c (S.map (·.1)) (dh ⟨S, O, M, none⟩ ow H) v d) : Rp K c (S.map (·.1)) (hid H O) v d := rpS (hid_sub fun a ha => List.mem_append_right _ ha) h
theorem wd_lift {T : TS} {P : PSt} {Nn : List Str} {n : Nat} {ps : PSp} (hS : SimS ⟨K, c, W0, fun _ _ => False⟩ T P) (hp : ∀ ds Q E, ps ds Q E → ds.length = n ∧ P { nx := fun _ => Q .non, rt := Q } (startP Nn.length ds)) : Wd T Nn n (lift K c ps) := by
  rintro vs H Q E ⟨S, O, ds, Q', E', oc, dr, r, p, q, _⟩
  obtain ⟨hl, z⟩ := hp ds Q' E' p
  refine ⟨(rpsLen r).trans hl, ?_⟩
  refine hS ⟨S, O, (S.map (·.1)).toList, none⟩ H (hid H O) (fun _ _ _ _ _ _ f => f.elim) [] H _ _ _ { nx := fun _ => Q' .non, rt := Q' } ⟨fun ow H1 σ ρ r1 q1 => q _ _ H1 r1.exO .non q1, fun _ _ _ _ _ f => f.elim, fun _ _ _ _ _ f => f.elim, fun ow H1 σ ρ v d r1 h1 q1 => q v d H1 r1.exO (out_rp h1) q1⟩ (start_rel oc dr r) z
theorem wd_liftX {T : WX → TS} {P : WP → PSt} {Nn : List Str} {n : Nat} {ps : PSp} (hS : ∀ W Wp, SimS ⟨K, c, W, Wp⟩ (T W) (P Wp)) (hp : ∀ ds Q E, ps ds Q E → ds.length = n ∧ P (fun x _ => E x) { nx := fun _ => Q .non, rt := Q } (startP Nn.length ds)) : WdX T Nn n (lift K c ps) := by
  rintro vs H Q E ⟨S, O, ds, Q', E', oc, dr, r, p, q, qe⟩
  obtain ⟨hl, z⟩ := hp ds Q' E' p
  refine ⟨(rpsLen r).trans hl, ?_⟩
  refine hS _ _ ⟨S, O, (S.map (·.1)).toList, none⟩ H (hid H O) (fun x ow H1 σ ρ r1 e1 => qe x H1 r1.exO e1) [] H _ _ _ { nx := fun _ => Q' .non, rt := Q' } ⟨fun ow H1 σ ρ r1 q1 => q _ _ H1 r1.exO .non q1, fun _ _ _ _ _ f => f.elim, fun _ _ _ _ _ f => f.elim, fun ow H1 σ ρ v d r1 h1 q1 => q v d H1 r1.exO (out_rp h1) q1⟩ (start_rel oc dr r) z
/-- __init__ -/
def startI (x : Str) (gs : List Str) (n : Nat) (ds : List Da) : PEnv := some (.obj x gs [] []) :: startP (n - 1) ds
theorem start_relI {S : Option (Addr × Addr)} {O : List Addr} {H : Hp} {vs : List V} {ds : List Da} {Nn : List Str} {x : Str} {gs : List Str} {p dx : Addr} (oc : Occ H O) (dr : ∀ st L, S = some (st, L) → Draw H st L ∧ st ∈ O ∧ p ≠ st ∧ p ≠ L) (ok : ClsOk K c x gs) (hp : H p = some (.ins (c.cls x) dx [])) (np : p ∉ O) (r : RpA K c (S.map (·.1)) (hid H (p :: O)) vs ds) (hn : 0 < Nn.length) :
    Rel K c ⟨S, O, p :: (S.map (·.1)).toList, some p⟩ H (hid H (p :: O)) [(0, p)] H (L2.start Nn (.ref p :: vs)) (startI x gs Nn.length ds) := by
  obtain ⟨n0, Nt, rfl⟩ : ∃ a l, Nn = a :: l := by cases Nn with | nil => simp at hn | cons a l => exact ⟨a, l, rfl⟩
  refine ⟨Occ.cons hp oc, fun st L e => ?_, fun q h => ?_, fun q h q' h' _ => ?_, fun a o _ e => e, fun q h => ?_, ?_, fun i y e => ?_, Same.refl _⟩
  · have e : S = some (st, L) := e
    refine ⟨(dr st L e).1, (dr st L e).2.1, ?_⟩
    subst e; simp
  · obtain rfl := List.mem_singleton.mp h
    exact ⟨fun st L e => (dr st L e).2.2, np⟩
  · rw [List.mem_singleton.mp h, List.mem_singleton.mp h']
  · obtain rfl := List.mem_singleton.mp h
    exact .inr (List.mem_cons_self ..)
  · unfold L2.start startI startP
    simp [rpsLen r]
  · unfold startI at e
    cases i with
    | zero =>
      cases e
      exact ⟨p, dx, [], List.mem_cons_self .., by unfold L2.start; rfl, ⟨ok, rfl⟩, by rw [hp]; rfl, rfl, .nil⟩
    | succ i =>
      rw [List.getElem?_cons_succ] at e
      unfold startP at e
      have hl := rpsLen r
      rw [List.getElem?_append] at e
      split at e
      · rename_i lt
        rw [List.length_map] at lt
        rw [List.getElem?_map] at e
        cases ed : ds[i]? with
        | none => rw [ed] at e; cases e
        | some d =>
          rw [ed] at e
          cases e
          obtain ⟨v, ev, rv⟩ := rpsGet r ed
          refine ⟨v, ?_, rv⟩
          unfold L2.start
          rw [List.map_cons, List.cons_append, List.getElem?_cons_succ, List.getElem?_append_left (by rw [List.length_map]; omega), List.getElem?_map, ev]; rfl
      · rw [List.getElem?_replicate] at e
        split at e <;> cases e
theorem Rel.exI {S : Option (Addr × Addr)} {O : List Addr} {p : Addr} {H0 B H : Hp} {ow : Ow} {σ : L2.St} {ρ : PEnv} (r : Rel K c ⟨S, O, p :: (S.map (·.1)).toList, some p⟩ H0 B ow H σ ρ) : (∀ a o, (∀ st L, S = some (st, L) → a ≠ st) → a ≠ p → H0 a = some o → H a = some o) ∧ ∀ st L, S = some (st, L) → Draw H st L := by
  refine ⟨fun a o n np e => r.fr a o (fun m => ?_) e, fun st L e => (r.dr st L e).1⟩
  cases S with
  | none => simp at m; exact np m
  | some z =>
    obtain ⟨st, L⟩ := z; simp at m
    rcases m with m | m
    · exact np m
    · exact n st L rfl m
/-- at the end self stands whole -/
def endI (x : Str) (gs : List Str) (Q : List Da → Prop) : PEnv → Prop := fun ρ => ∃ l, ρ[0]? = some (some (.obj x gs gs l)) ∧ Q l
theorem end_rpI {S : Option (Addr × Addr)} {O : List Addr} {p : Addr} {H0 B H : Hp} {ow : Ow} {σ : L2.St} {ρ : PEnv} {x : Str} {gs : List Str} {l : List Da} (r : Rel K c ⟨S, O, p :: (S.map (·.1)).toList, some p⟩ H0 B ow H σ ρ) (e : ρ[0]? = some (some (.obj x gs gs l))) : Rp K c (S.map (·.1)) (hid H O) (.ref p) (.ins x gs l) := by
  obtain ⟨b, dx, vs, m, es, ⟨ok, eq⟩, eb, hl, rl⟩ := r.sl 0 _ e
  obtain rfl : p = b := Option.some.inj eq
  exact .ins ok (hid_lk (r.nd _ m).2 eb) hl (rpsS (hid_sub fun a ha => List.mem_append_right _ ha) rl)
theorem wd_liftI {T : TS} {P : PSt} {Nn : List Str} {n : Nat} {x : Str} {gs : List Str} {ps : PSi} (hS : SimS ⟨K, c, W0, fun _ _ => False⟩ T P) (hn : 0 < Nn.length) (hp : ∀ ds Q E, ps ds Q E → ds.length + 1 = n ∧ P { nx := endI x gs Q, rt := fun _ => False } (startI x gs Nn.length ds)) : Wd T Nn n (liftI K c x gs ps) := by
  rintro us H Q E ⟨S, O, p, dx, vs, ds, Q', E', rfl, oc, dr, ok, hp', np, r, z, q, _⟩
  obtain ⟨hl, z⟩ := hp ds Q' E' z
  refine ⟨by rw [List.length_cons, rpsLen r]; exact hl, ?_⟩
  refine hS ⟨S, O, p :: (S.map (·.1)).toList, some p⟩ H _ (fun _ _ _ _ _ _ f => f.elim) _ H _ _ _ { nx := endI x gs Q', rt := fun _ => False } ⟨fun ow H1 σ ρ r1 ⟨l, e1, q1⟩ => q l H1 r1.exI.1 r1.exI.2 (end_rpI r1 e1) q1, fun _ _ _ _ _ f => f.elim, fun _ _ _ _ _ f => f.elim, fun _ _ _ _ _ _ _ _ f => f.elim⟩ (start_relI oc dr ok hp' np r hn) z
theorem wd_liftIX {T : WX → TS} {P : WP → PSt} {Nn : List Str} {n : Nat} {x : Str} {gs : List Str} {ps : PSi} (hS : ∀ W Wp, SimS ⟨K, c, W, Wp⟩ (T W) (P Wp)) (hn : 0 < Nn.length) (hp : ∀ ds Q E, ps ds Q E → ds.length + 1 = n ∧ P (fun y _ => E y) { nx := endI x gs Q, rt := fun _ => False } (startI x gs Nn.length ds)) : WdX T Nn n (liftI K c x gs ps) := by
  rintro us H Q E ⟨S, O, p, dx, vs, ds, Q', E', rfl, oc, dr, ok, hp', np, r, z, q, qe⟩
  obtain ⟨hl, z⟩ := hp ds Q' E' z
  refine ⟨by rw [List.length_cons, rpsLen r]; exact hl, ?_⟩
  refine hS _ _ ⟨S, O, p :: (S.map (·.1)).toList, some p⟩ H _ (fun y ow H1 σ ρ r1 e1 => qe y H1 r1.exI.1 r1.exI.2 e1) _ H _ _ _ { nx := endI x gs Q', rt := fun _ => False } ⟨fun ow H1 σ ρ r1 ⟨l, e1, q1⟩ => q l H1 r1.exI.1 r1.exI.2 (end_rpI r1 e1) q1, fun _ _ _ _ _ f => f.elim, fun _ _ _ _ _ f => f.elim, fun _ _ _ _ _ _ _ _ f => f.elim⟩ (start_relI oc dr ok hp' np r hn) z
end

/-! == of tuples and lists whose items may be own instances: both answers, and objects may be made meanwhile -/
namespace ZG
open PySem PySem.SeqAt GQ
open MeetsSeq MeetsSeq2 MeetsSeq3 SeqRoads2
section
variable {prog : Program} {w : World} {A : Around} {R : Result → Shared → Prop}
theorem all_pre {e : Nat → Bool} : ∀ {n i : Nat}, i ≤ n → (∀ j, j < i → e j = true) → ((List.range n).all e = ((List.range n).drop i).all e)
  | n, 0, _, _ => by rw [List.drop_zero]
  | n, i + 1, h, p => by
    rw [all_pre (i := i) (by omega) fun j hj => p j (by omega)]
    have hd : (List.range n).drop i = i :: (List.range n).drop (i + 1) := by
      have : i < (List.range n).length := by simp; omega
      rw [List.drop_eq_getElem_cons this]; simp
    rw [hd, List.all_cons, p i (by omega), Bool.true_and]
theorem tuple_eqB (l b : Addr) (items items2 : Array Value) (n n2 : Nat) (dd dd2 : Option Addr) (sl sl2 : Array (Option Value)) (e : Nat → Bool) (I : Nat → Shared → Prop)
    (turn : ∀ i (h1 : i < items.size) (h2 : i < items2.size) s, I i s → wpAny (model prog w) A.in1 (eqBool items[i] items2[i]) (fun r s' => r = e i ∧ I (i + 1) s') (fun e s' => R (.error e) s') s)
    (fin : ∀ i s, I i s → R (.ok (.ret (.bool ((List.range (min items.size items2.size)).all e && items.size == items2.size)))) s) {s : Shared} (hl1 : s.heap.get? l = some { cls := .type "tuple", dict := dd, data := .seq items n, slots := sl }) (hb1 : s.heap.get? b = some { cls := .type "tuple", dict := dd2, data := .seq items2 n2, slots := sl2 }) (h : I 0 s) :
    wpAny (model prog w) A.in1 (Builtin.«tuple.__eq__» ⟨[.ref l, .ref b], []⟩) (FinOf prog w A R) (fun e s' => R (.error e) s') s := by
  have f2 := AutoSeq1.sub_tuple_tuple
  have hZ : (items.toList.zip items2.toList).length = min items.size items2.size := by simp
  have h0 := h
  obtain ⟨hp, g, d, tk, os⟩ := s
  wp_walk using AutoSeq1.wpAny_loadPart' hl1, AutoSeq1.wpAny_loadPart' hb1, wpAny_forIn_list _ (fun rest b s' => b.1 = none ∧ ∃ i, rest = (items.toList.zip items2.toList).drop i ∧ i ≤ min items.size items2.size ∧ (∀ j, j < i → e j = true) ∧ I i s') _
  case turn =>
    rintro ⟨y, x⟩ rest b s' ⟨hb', i, hz, hi, he, hI⟩
    have hlt : i < (items.toList.zip items2.toList).length := by
      rcases Nat.lt_or_ge i (items.toList.zip items2.toList).length with h' | h'
      · exact h'
      · rw [List.drop_of_length_le h'] at hz; cases hz
    have hm : i < min items.size items2.size := hZ ▸ hlt
    have h1 : i < items.size := Nat.lt_of_lt_of_le hm (Nat.min_le_left _ _)
    have h2 : i < items2.size := Nat.lt_of_lt_of_le hm (Nat.min_le_right _ _)
    rw [List.drop_eq_getElem_cons hlt] at hz
    injection hz with hyx hrest
    have hy : y = items[i] := by have := congrArg Prod.fst hyx; simpa using this
    have hx : x = items2[i] := by have := congrArg Prod.snd hyx; simpa using this
    subst hy hx
    refine wpAny_bind (wpAny_mono (turn i h1 h2 s' hI) (fun r s2 q2 => ?_) fun _ _ x => x)
    obtain ⟨hr, q2⟩ := q2
    cases hy : e i with
    | true =>
      rw [hy] at hr
      subst hr
      wp_walk
      exact ⟨rfl, i + 1, hrest, hm, fun j hj => by
        rcases Nat.lt_succ_iff_lt_or_eq.mp hj with z | z
        · exact he j z
        · rw [z]; exact hy, q2⟩
    | false =>
      rw [hy] at hr
      subst hr
      have hR := fin (i + 1) s2 q2
      rw [all_pre hi he, show (List.range (min items.size items2.size)).drop i = i :: (List.range (min items.size items2.size)).drop (i + 1) by simp [List.drop_eq_getElem_cons, hm], List.all_cons, hy] at hR
      wp_walk
      simpa using hR
  case fin =>
    rintro ⟨b1, b2⟩ s' ⟨hb', i, hz, hi, he, hI⟩
    simp only at hb'
    subst hb'
    have hge : min items.size items2.size ≤ i := by
      rcases Nat.lt_or_ge i (items.toList.zip items2.toList).length with h' | h'
      · rw [List.drop_eq_getElem_cons h'] at hz; cases hz
      · exact hZ ▸ h'
    have hR := fin i s' hI
    rw [all_pre hi he, List.drop_of_length_le (by simpa using hge)] at hR
    wp_walk
    simpa [Builtin.Tuple.tupleCompareSizes] using hR
  case h =>
    exact ⟨rfl, 0, rfl, Nat.zero_le _, fun j hj => absurd hj (Nat.not_lt_zero _), h0⟩
/-- at each turn the two lists are read anew -/
def ListB (prog : Program) (w : World) (A : Around) (E : Value → Shared → Prop) (l b : Addr) (N : Nat) (e : Nat → Bool) (I : Nat → Shared → Prop) : Prop :=
  ∀ i s, I i s → ∃ (items items2 : Array Value) (n n2 : Nat), s.heap.get? l = some { cls := .type "list", data := .seq items n } ∧ s.heap.get? b = some { cls := .type "list", data := .seq items2 n2 } ∧ items.size = N ∧ items2.size = N ∧
    ∀ (h1 : i < items.size) (h2 : i < items2.size), wpAny (model prog w) A.in1 (eqBool items[i] items2[i]) (fun r s' => r = e i ∧ I (i + 1) s') E s
theorem eq_loopB (l b : Addr) (N : Nat) (e : Nat → Bool) (I : Nat → Shared → Prop) (hl : ListB prog w A (fun e s' => R (.error e) s') l b N e I)
    (fin : ∀ i s, I i s → R (.ok (.ret (.bool ((List.range N).all e)))) s) (k : Nat) :
    ∀ i : Nat, N - i = k → i ≤ N → (∀ j, j < i → e j = true) → ∀ s, I i s →
      wpAny (model prog w) A.in1 (Builtin.«list.__eq__.loop» ⟨[.ref l, .ref b, rawInt i, rawInt 2], []⟩) (FinOf prog w A R) (fun e s' => R (.error e) s') s := by
  induction k with
  | zero =>
    intro i hk hi he s h
    obtain ⟨items, items2, n, n2, hl1, hb1, hs1, hs2, _⟩ := hl _ _ h
    have hi' : i = N := by omega
    have hR := fin i s h
    rw [all_pre hi he, List.drop_of_length_le (by simp; omega), List.all_nil] at hR
    obtain ⟨hp, g, d, tk, os⟩ := s
    wp_walk using AutoSeq1.wpAny_loadPart' hl1, AutoSeq1.wpAny_loadPart' hb1
    have hi1 : items[((i : Nat) : Int).toNat]? = none := by simp; omega
    have hi2 : items2[((i : Nat) : Int).toNat]? = none := by simp; omega
    rw [hi1, hi2]
    wp_walk using AutoSeq1.wpAny_loadPart' hl1, AutoSeq1.wpAny_loadPart' hb1
    show R (.ok (.ret (.bool (items.size == items2.size)))) _
    rw [hs1, hs2]
    simpa using hR
  | succ k ih =>
    intro i hk hi he s h
    obtain ⟨items, items2, n, n2, hl1, hb1, hs1, hs2, turn⟩ := hl _ _ h
    have hlt : i < items.size := by omega
    have hlt2 : i < items2.size := by omega
    have ht := turn hlt hlt2
    obtain ⟨hp, g, d, tk, os⟩ := s
    wp_walk using AutoSeq1.wpAny_loadPart' hl1, AutoSeq1.wpAny_loadPart' hb1
    have hi1 : items[((i : Nat) : Int).toNat]? = some items[i] := by simp [hlt]
    have hi2 : items2[((i : Nat) : Int).toNat]? = some items2[i] := by simp [hlt2]
    have hc : ((i : Int) + 1) = ((i + 1 : Nat) : Int) := by omega
    rw [hi1, hi2]
    refine wpAny_bind (wpAny_mono ht (fun r s2 h2 => ?_) fun _ _ x => x)
    obtain ⟨hr, h2⟩ := h2
    cases hb' : e i with
    | true =>
      rw [hb'] at hr
      subst hr
      have hrec := ih (i + 1) (by omega) (by omega) (fun j hj => by
        rcases Nat.lt_succ_iff_lt_or_eq.mp hj with z | z
        · exact he j z
        · rw [z]; exact hb') s2 h2
      obtain ⟨hp2, g2, d2, tk2, os2⟩ := s2
      wp_walk
      rw [hc]
      exact ⟨plainId_quiet plain_eq_loop _, codeAny_builtin entry_eq_loop (by
        rw [Around.under_plainId plain_eq_loop _]
        exact hrec)⟩
    | false =>
      rw [hb'] at hr
      subst hr
      have hR := fin (i + 1) s2 h2
      rw [all_pre hi he, show (List.range N).drop i = i :: (List.range N).drop (i + 1) by
        have : i < (List.range N).length := by simp; omega
        rw [List.drop_eq_getElem_cons this]; simp, List.all_cons, hb'] at hR
      obtain ⟨items3, items4, n3, n4, hl3, hb3, hs3, hs4, _⟩ := hl _ _ h2
      have hi3 : items3[((i : Nat) : Int).toNat]? = some (items3[i]'(by omega)) := by simp
      have hi4 : items4[((i : Nat) : Int).toNat]? = some (items4[i]'(by omega)) := by simp
      obtain ⟨hp2, g2, d2, tk2, os2⟩ := s2
      wp_walk using AutoSeq1.wpAny_loadPart' hl3, AutoSeq1.wpAny_loadPart' hb3
      rw [hi3, hi4]
      wp_walk
      simpa using hR
theorem list_eqB (l b : Addr) (N : Nat) (e : Nat → Bool) (I : Nat → Shared → Prop) (hl : ListB prog w A (fun e s' => R (.error e) s') l b N e I)
    (fin : ∀ i s, I i s → R (.ok (.ret (.bool ((List.range N).all e)))) s) {s : Shared} (h : I 0 s) :
    wpAny (model prog w) A.in1 (Builtin.«list.__eq__» ⟨[.ref l, .ref b], []⟩) (FinOf prog w A R) (fun e s' => R (.error e) s') s := by
  obtain ⟨items, items2, n, n2, hl1, hb1, hs1, hs2, _⟩ := hl _ _ h
  have hrec := eq_loopB (A := A) (R := R) l b N e I hl fin _ 0 rfl (Nat.zero_le _) (fun j hj => absurd hj (Nat.not_lt_zero _)) s h
  obtain ⟨hp, g, d, tk, os⟩ := s
  have f3 := AutoSeq1.sub_list_list
  have hne : ¬ (items.size != items2.size) = true := by simp [hs1, hs2]
  wp_walk using AutoSeq1.wpAny_loadPart' hl1, AutoSeq1.wpAny_loadPart' hb1
  exact ⟨plainId_quiet plain_eq_loop _, codeAny_builtin entry_eq_loop (by
    rw [Around.under_plainId plain_eq_loop _]
    exact hrec)⟩
end
section
variable {prog : Program} {w : World} {A : Around} {E : Value → Shared → Prop} {s : Shared}
theorem rc_listB {l b : Addr} {N : Nat} {Q : Value → Shared → Prop} (hu : A.units < cLine) (e : Nat → Bool) (I : Nat → Shared → Prop) (hl : ListB prog w A E l b N e I)
    (fin : ∀ i s, I i s → Q (.bool ((List.range N).all e)) s) (h : I 0 s) : wpAny (model prog w) A (richCompare .Eq (.ref l) (.ref b)) Q E s := by
  obtain ⟨items, items2, n, n2, hl1, hb1, _, _, _⟩ := hl _ _ h
  refine wpAny_richCompare_same_room (op := .Eq) ⟨_, hl1, rfl⟩ ⟨_, hb1, rfl⟩ F.slot_list_eq (GQ.call_here F.slot_list_eq ⟨_, hl1, rfl⟩ F.entry_list_eq (F.args_list_eq_2 _ _) ?_) hu
  exact list_eqB (R := wants (fun v s' => v ≠ .notImplemented ∧ Q v s') E) l b N e I hl (fun i s' q => ⟨(fun x => nomatch x), fin i s' q⟩) h
theorem rc_tupB {l b : Addr} {items items2 : Array Value} {Q : Value → Shared → Prop} (hu : A.units < cLine) (e : Nat → Bool) (I : Nat → Shared → Prop)
    (hl : s.heap.IsTuple l items) (hb : s.heap.IsTuple b items2)
    (turn : ∀ i (h1 : i < items.size) (h2 : i < items2.size) s, I i s → wpAny (model prog w) A.in1 (eqBool items[i] items2[i]) (fun r s' => r = e i ∧ I (i + 1) s') E s)
    (fin : ∀ i s, I i s → Q (.bool ((List.range (min items.size items2.size)).all e && items.size == items2.size)) s) (h : I 0 s) : wpAny (model prog w) A (richCompare .Eq (.ref l) (.ref b)) Q E s := by
  obtain ⟨⟨cls, dd, data, sl⟩, ho, hc, n, hd⟩ := id hl
  obtain ⟨⟨cls2, dd2, data2, sl2⟩, ho2, hc2, n2, hd2⟩ := id hb
  simp only at hc hd hc2 hd2
  subst hc hd hc2 hd2
  refine wpAny_richCompare_same_room (op := .Eq) ⟨_, ho, rfl⟩ ⟨_, ho2, rfl⟩ F.slot_tuple_eq (GQ.call_here F.slot_tuple_eq ⟨_, ho, rfl⟩ F.entry_tuple_eq (F.args_tuple_eq_2 _ _) ?_) hu
  exact tuple_eqB (R := wants (fun v s' => v ≠ .notImplemented ∧ Q v s') E) l b items items2 n n2 dd dd2 sl sl2 e I turn (fun i s' q => ⟨(fun x => nomatch x), fin i s' q⟩) ho ho2 h
end
end ZG

/-- what own == is known of: class, its promise -/
abbrev ETab := List (Str × PSp)
/-- what may be compared, own instances too -/
def CqX (tab : ETab) : Nat → Da → Da → Prop
  | 0, x, y => flD x = true ∧ flD y = true
  | n + 1, x, y => (flD x = true ∧ flD y = true) ∨ (∃ a b, x = .tup a ∧ y = .tup b ∧ ∀ (i : Nat) (u v : Da), a[i]? = some u → b[i]? = some v → CqX tab n u v) ∨
      (∃ a b, x = .lst a ∧ y = .lst b ∧ ∀ (i : Nat) (u v : Da), a[i]? = some u → b[i]? = some v → CqX tab n u v) ∨
      ∃ k ks a, x = .ins k ks a ∧ (∃ ps, (k, ps) ∈ tab ∧ ps [x, y] (fun r => r = .bl (eqD x y)) (fun _ => False)) ∧ eqD x x = true ∧ ((∃ k2 ks2 b, y = .ins k2 ks2 b ∧ (k2 = k ∨ ((∃ ps2, (k2, ps2) ∈ tab) ∧ SUB k2 k = false))) ∨ okTy y = true)
/-- the classes of the table keep their promises at a level at most k -/
def ETabF (P : Program) (w : World) (K : PySem.W.Frag) (mg : Str → Option Value) (base : Heap) (c : CEnv) (k : Nat) (tab : ETab) : Prop := ∀ z ∈ tab, IsF K c z.1 ∧ (∃ gs, ClsOk K c z.1 gs) ∧ ∃ (f : Addr) (fd : FuncData) (pn : List Str) (k' : Nat) (sp : Sp), k' ≤ k ∧ Meth K (c.cls z.1) "__eq__" f ∧ Binds K fd pn [] ∧ FnOk P w K mg base CX0 k' f fd pn sp ∧ SpSim K c sp z.2
abbrev ETabOk (X : Cx) (c : CEnv) (k : Nat) (tab : ETab) : Prop := ETabF X.prog X.w X.K X.mg X.base c k tab
theorem FnOk.mono' {P : Program} {w : World} {K : PySem.W.Frag} {mg : Str → Option Value} {base : Heap} {CX : CXT} {k k' : Nat} {f : Addr} {fd : FuncData} {ps : List Str} {sp : Sp} (h : FnOk P w K mg base CX k f fd ps sp) : FnOk P w K mg base CX k f fd ps sp := h
section
variable {X : Cx} {c : CEnv} {k : Nat} {tab : ETab} {S : Option (Addr × Addr)} {O : List Addr}
def GoodH (S : Option (Addr × Addr)) (O : List Addr) (H : Hp) : Prop := Occ H O ∧ ∀ st L, S = some (st, L) → Draw H st L ∧ st ∈ O
theorem GoodH.ex {H H' : Hp} (g : GoodH S O H) (x : Ex S H H') : GoodH S O H' := ⟨g.1.ex x, fun st L e => ⟨x.2 st L e, (g.2 st L e).2⟩⟩
def EqGX (X : Cx) (c : CEnv) (n : Nat) (S : Option (Addr × Addr)) (O : List Addr) (d e : Da) : Prop := ∀ (A : Around) (pins : List (Addr × Obj)) (s : Shared) (σ : L2.St) (H : Hp) (x y : V) (u v : Value), Sub X n A → Inv X pins σ H s → GoodH S O H → RelV x u → RelV y v → Rp X.K c (S.map (·.1)) (hid H O) x d → Rp X.K c (S.map (·.1)) (hid H O) y e →
  wpAny (model X.prog X.w) A (eqBool u v) (fun r s' => r = eqD d e ∧ ∃ H', Inv X pins σ H' s' ∧ Ex S H H') X.xe s
def RcGX (X : Cx) (c : CEnv) (n : Nat) (S : Option (Addr × Addr)) (O : List Addr) (d e : Da) : Prop := ∀ (A : Around) (pins : List (Addr × Obj)) (s : Shared) (σ : L2.St) (H : Hp) (x y : V) (u v : Value), Sub X n A → Inv X pins σ H s → GoodH S O H → RelV x u → RelV y v → Rp X.K c (S.map (·.1)) (hid H O) x d → Rp X.K c (S.map (·.1)) (hid H O) y e →
  wpAny (model X.prog X.w) A (richCompare .Eq u v) (fun r s' => r = .bool (eqD d e) ∧ ∃ H', Inv X pins σ H' s' ∧ Ex S H H') X.xe s
theorem flat_EqGX {d e : Da} (n : Nat) (h1 : flD d = true) (h2 : flD e = true) : EqGX X c n S O d e := by
  intro A pins s σ H x y u v sb I g rx ry hx hy
  have q := eqAt_V (A := A) (s := s) rx ry (flV_of hx h1) (flV_of hy h2)
  rw [eqV_of hx hy h1 h2] at q
  exact q X.prog X.w X.xe _ ⟨rfl, H, I, Ex.of (Same.refl H) fun st L e => (g.2 st L e).1⟩
theorem zip_inj {α : Type} : ∀ {ks ls : List Str} {vs us : List α}, vs.length = ks.length → us.length = ls.length → ks.zip vs = ls.zip us → ks = ls ∧ vs = us
  | [], [], [], [], _, _, _ => ⟨rfl, rfl⟩
  | [], [], v :: vs, _, h, _, _ => by simp at h
  | [], [], [], u :: us, _, h, _ => by simp at h
  | [], l :: ls, _, [], _, h, _ => by simp at h
  | [], l :: ls, _, u :: us, _, _, e => by simp at e
  | k :: ks, _, [], _, h, _, _ => by simp at h
  | k :: ks, [], v :: vs, us, _, _, e => by simp at e
  | k :: ks, l :: ls, v :: vs, [], _, h, _ => by simp at h
  | k :: ks, l :: ls, v :: vs, u :: us, h1, h2, e => by
    rw [List.zip_cons_cons, List.zip_cons_cons] at e
    injection e with e1 e2
    injection e1 with e3 e4
    obtain ⟨a, b⟩ := zip_inj (by simpa using h1) (by simpa using h2) e2
    exact ⟨by rw [e3, a], by rw [e4, b]⟩
theorem tup_not_lst {pins : List (Addr × Obj)} {σ : L2.St} {H : Hp} {s : Shared} {a : Addr} {xs ys : List V} (I : Inv X pins σ H s) (h1 : SqT X.K H a xs) (h2 : H a = some (.lst ys)) : False := by
  obtain ⟨_, _, ⟨o, e, c, _⟩, _⟩ := I.tuple h1
  obtain ⟨_, _, p, _⟩ := I.list (SqL.of h2)
  obtain ⟨o2, n, e2, c2, _⟩ := p
  rw [e] at e2
  cases e2
  have z := c.symm.trans c2
  injection z with z
  exact absurd z (by decide)
theorem tup_not_ins {pins : List (Addr × Obj)} {σ : L2.St} {H : Hp} {s : Shared} {a C dx : Addr} {xs : List V} {fs : List (Str × V)} (I : Inv X pins σ H s) (h1 : SqT X.K H a xs) (h2 : H a = some (.ins C dx fs)) : False := by
  obtain ⟨_, _, ⟨o, e, c, _⟩, _⟩ := I.tuple h1
  obtain ⟨m, J, _⟩ := ins_get I.hok h2
  have z := J.obj
  rw [e] at z
  cases z
  cases c
mutual
theorem Rp.det {pins : List (Addr × Obj)} {σ : L2.St} {H : Hp} {s : Shared} (I : Inv X pins σ H s) (g : GoodH S O H) : ∀ (d : Da) (v : V) (e : Da), Rp X.K c (S.map (·.1)) (hid H O) v d → Rp X.K c (S.map (·.1)) (hid H O) v e → d = e
  | .non, _, e, h1, h2 => by cases h1; cases h2; rfl
  | .bl _, _, e, h1, h2 => by cases h1; cases h2; rfl
  | .int _, _, e, h1, h2 => by cases h1; cases h2; rfl
  | .str _, _, e, h1, h2 => by cases h1; cases h2; rfl
  | .ty _, _, e, h1, h2 => by cases h1; cases h2; rfl
  | .st, v, e, h1, h2 => by
    obtain ⟨a, ha, rfl⟩ := rpSt h1
    obtain ⟨L, hs⟩ : ∃ L, S = some (a, L) := by
      cases S with
      | none => cases ha
      | some z => cases ha; exact ⟨z.2, rfl⟩
    obtain ⟨dr, hO⟩ := g.2 _ _ hs
    cases h2 with
    | st _ => rfl
    | tup hq _ =>
      obtain ⟨_, _, _, e1, _⟩ := dr.ex
      exact (tup_not_lst I (Same.sqT hid_le hq) e1).elim
    | lst hq _ => rw [hid_in hO] at hq; cases hq
    | ins _ hq _ _ => rw [hid_in hO] at hq; cases hq
  | .tup ds, v, e, h1, h2 => by
    obtain ⟨a, xs, rfl, e1, r1⟩ := rpT h1
    cases h2 with
    | st hs =>
      obtain ⟨L, hs⟩ : ∃ L, S = some (a, L) := by
        cases S with
        | none => cases hs
        | some z => cases hs; exact ⟨z.2, rfl⟩
      obtain ⟨_, _, _, e2, _⟩ := (g.2 _ _ hs).1.ex
      exact (tup_not_lst I (Same.sqT hid_le e1) e2).elim
    | tup hq hr =>
      obtain rfl := I.tuple_inj (Same.sqT hid_le e1) (Same.sqT hid_le hq)
      rw [RpA.det I g ds _ _ r1 hr]
    | lst hq _ => exact (tup_not_lst I (Same.sqT hid_le e1) (hid_le _ _ hq)).elim
    | ins _ hq _ _ => exact (tup_not_ins I (Same.sqT hid_le e1) (hid_le _ _ hq)).elim
  | .lst ds, v, e, h1, h2 => by
    obtain ⟨a, xs, rfl, e1, r1⟩ := rpL h1
    cases h2 with
    | st hs =>
      obtain ⟨L, hs⟩ : ∃ L, S = some (a, L) := by
        cases S with
        | none => cases hs
        | some z => cases hs; exact ⟨z.2, rfl⟩
      rw [hid_in (g.2 _ _ hs).2] at e1; cases e1
    | tup hq hr => exact (tup_not_lst I (Same.sqT hid_le hq) (hid_le _ _ e1)).elim
    | lst hq hr =>
      rw [e1] at hq
      cases hq
      rw [RpA.det I g ds _ _ r1 hr]
    | ins _ hq _ _ => rw [e1] at hq; cases hq
  | .ins x ks ds, v, e, h1, h2 => by
    obtain ⟨a, dx, xs, rfl, ok, e1, hl, r1⟩ := rpO h1
    cases h2 with
    | st hs =>
      obtain ⟨L, hs⟩ : ∃ L, S = some (a, L) := by
        cases S with
        | none => cases hs
        | some z => cases hs; exact ⟨z.2, rfl⟩
      rw [hid_in (g.2 _ _ hs).2] at e1; cases e1
    | tup hq hr => exact (tup_not_ins I (Same.sqT hid_le hq) (hid_le _ _ e1)).elim
    | lst hq _ => rw [e1] at hq; cases hq
    | ins ok2 hq hl2 hr =>
      rw [e1] at hq
      injection hq with hq
      injection hq with c1 _ z
      obtain rfl := ok.inj _ ok2.al c1
      have l1 := rpsLen r1
      have l2 := rpsLen hr
      obtain ⟨rfl, rfl⟩ := zip_inj (by omega) (by omega) z
      rw [RpA.det I g ds _ _ r1 hr]
theorem RpA.det {pins : List (Addr × Obj)} {σ : L2.St} {H : Hp} {s : Shared} (I : Inv X pins σ H s) (g : GoodH S O H) : ∀ (ds : List Da) (vs : List V) (es : List Da), RpA X.K c (S.map (·.1)) (hid H O) vs ds → RpA X.K c (S.map (·.1)) (hid H O) vs es → ds = es
  | [], _, es, h1, h2 => by cases h1; cases h2; rfl
  | d :: ds, _, es, h1, h2 => by
    obtain ⟨v, ws, rfl, a, b⟩ := rpsC h1
    obtain ⟨e, es', rfl, a2, b2⟩ := rpsC' h2
    rw [Rp.det I g d v e a a2, RpA.det I g ds ws es' b b2]
end
theorem eq0_refl : ∀ d : Da, flD d = true → eq0 d d = true
  | .non, _ => rfl
  | .bl b, _ => by simp [eq0]
  | .int b, _ => by simp [eq0]
  | .str b, _ => by simp [eq0]
  | .st, h => by cases h
  | .ty _, h => by cases h
  | .tup _, h => by cases h
  | .lst _, h => by cases h
  | .ins _ _ _, h => by cases h
theorem eqD_flat {d e : Da} (h1 : flD d = true) (h2 : flD e = true) : eqD d e = eq0 d e := by
  cases d <;> first | (cases h1; done) | skip
  all_goals cases e <;> first | (cases h2; done) | (simp only [eqD])
theorem eqDs_refl : ∀ {l : List Da}, (∀ d ∈ l, eqD d d = true) → eqDs l l = true
  | [], _ => rfl
  | d :: l, h => by unfold eqDs; rw [h d (List.mem_cons_self ..), eqDs_refl fun x hx => h x (List.mem_cons_of_mem _ hx)]; rfl
theorem CqX.refl : ∀ {n : Nat} {d : Da}, CqX tab n d d → eqD d d = true
  | 0, d, h => by rw [eqD_flat h.1 h.2]; exact eq0_refl d h.1
  | n + 1, d, h => by
    rcases h with h | ⟨a, b, rfl, e, h⟩ | ⟨a, b, rfl, e, h⟩ | ⟨k, ks, a, rfl, _, h, _⟩
    · rw [eqD_flat h.1 h.2]; exact eq0_refl d h.1
    · cases e
      simp only [eqD]
      exact eqDs_refl fun x hx => by
        obtain ⟨i, hi⟩ := List.mem_iff_getElem?.mp hx
        exact CqX.refl (h i x x hi hi)
    · cases e
      simp only [eqD]
      exact eqDs_refl fun x hx => by
        obtain ⟨i, hi⟩ := List.mem_iff_getElem?.mp hx
        exact CqX.refl (h i x x hi hi)
    · exact h
theorem eqDs_allB {xs ys : List Da} {us vs : List Value} (h1 : us.length = xs.length) (h2 : vs.length = ys.length) : eqDs xs ys = ((List.range (min us.toArray.size vs.toArray.size)).all (fun i => eqD (xs.getD i .non) (ys.getD i .non)) && (us.toArray.size == vs.toArray.size)) := by
  rw [eqDs_all, List.size_toArray, List.size_toArray, h1, h2]
/-- from rich comparison to == inside a built-in -/
theorem RcGX.eqG {n : Nat} {d e : Da} (h : RcGX X c n S O d e) (hr : ∀ pins σ H s (I : Inv X pins σ H s) (g : GoodH S O H) v, Rp X.K c (S.map (·.1)) (hid H O) v d → Rp X.K c (S.map (·.1)) (hid H O) v e → eqD d e = true) (h1 : flD d = false) (h2 : flD e = false) (t1 : ∀ z, d ≠ .ty z) (t2 : ∀ z, e ≠ .ty z) : EqGX X c n S O d e := by
  intro A pins s σ H x y u v sb I g rx ry hx hy
  obtain ⟨a, rfl⟩ : ∃ a, x = .ref a := by
    cases hx <;> first | (cases h1; done) | exact ⟨_, rfl⟩ | exact absurd rfl (t1 _)
  obtain ⟨b, rfl⟩ : ∃ b, y = .ref b := by
    cases hy <;> first | (cases h2; done) | exact ⟨_, rfl⟩ | exact absurd rfl (t2 _)
  cases rx
  cases ry
  by_cases hab : a = b
  · subst hab
    rw [hr pins σ H s I g _ hx hy]
    exact SeqAt.EqAt.same (A := A) (s := s) (.ref a) X.prog X.w X.xe _ ⟨rfl, H, I, Ex.of (Same.refl H) fun st L e => (g.2 st L e).1⟩
  · refine GQ.eqBool_refG hab (wpAny_mono (h A pins s σ H (.ref a) (.ref b) _ _ sb I g rfl rfl hx hy) (fun r s' q => ?_) fun _ _ x => x)
    obtain ⟨hr', q⟩ := q
    exact ⟨_, hr', rfl, q⟩
theorem getA {l : List Value} {i : Nat} (h : i < l.toArray.size) : l[i]? = some l.toArray[i] := by
  have h' : i < l.length := by simpa using h
  rw [List.getElem?_eq_getElem h'] <;> simp
theorem turnX {n : Nat} {ds es : List Da} (ih : ∀ (i : Nat) (d e : Da), ds[i]? = some d → es[i]? = some e → EqGX X c n S O d e) {A : Around} (sb : Sub X (n + 1) A) {pins : List (Addr × Obj)} {σ : L2.St} {H : Hp} (g : GoodH S O H) {xs ys : List V} {us vs : List Value} (r1 : Vals xs us) (r2 : Vals ys vs)
    (d1 : RpA X.K c (S.map (·.1)) (hid H O) xs ds) (d2 : RpA X.K c (S.map (·.1)) (hid H O) ys es) (i : Nat) (h1 : i < us.toArray.size) (h2 : i < vs.toArray.size) (s' : Shared) (l : ∃ H', Inv X pins σ H' s' ∧ Ex S H H') :
    wpAny (model X.prog X.w) A.in1 (eqBool us.toArray[i] vs.toArray[i]) (fun r s2 => r = eqD (ds.getD i .non) (es.getD i .non) ∧ ∃ H', Inv X pins σ H' s2 ∧ Ex S H H') X.xe s' := by
  obtain ⟨H1, I1, e1⟩ := l
  have l1 := rpsLen d1
  have l2 := rpsLen d2
  have k1 : i < xs.length := by rw [r1.length]; simpa using h1
  have k2 : i < ys.length := by rw [r2.length]; simpa using h2
  obtain ⟨u, hu, ru⟩ := r1.get (List.getElem?_eq_getElem k1)
  obtain ⟨v, hv, rv⟩ := r2.get (List.getElem?_eq_getElem k2)
  rw [getA h1] at hu
  rw [getA h2] at hv
  rw [Option.some.inj hu, Option.some.inj hv]
  have s1 := e1.hid (ps := O) fun st L e => (g.2 st L e).2
  obtain ⟨d, ed, rd⟩ := rpsGetV d1 (List.getElem?_eq_getElem k1)
  obtain ⟨e, ee, re⟩ := rpsGetV d2 (List.getElem?_eq_getElem k2)
  rw [show ds.getD i .non = d by rw [List.getD_eq_getElem?_getD, ed]; rfl, show es.getD i .non = e by rw [List.getD_eq_getElem?_getD, ee]; rfl]
  refine wpAny_mono (ih i d e ed ee A.in1 pins s' σ H1 _ _ u v sb.in1 I1 (g.ex e1) ru rv (rpS s1 rd) (rpS s1 re)) (fun r s2 q => ?_) fun _ _ x => x
  obtain ⟨hr, H2, I2, e2⟩ := q
  exact ⟨hr, H2, I2, Ex.trans e1 e2⟩
theorem rcX_tup {n : Nat} {ds es : List Da} (ih : ∀ (i : Nat) (d e : Da), ds[i]? = some d → es[i]? = some e → EqGX X c n S O d e) : RcGX X c (n + 1) S O (.tup ds) (.tup es) := by
  intro A pins s σ H x y u v sb I g rx ry hx hy
  obtain ⟨a, xs, rfl, ea, d1⟩ := rpT hx
  obtain ⟨b, ys, rfl, eb, d2⟩ := rpT hy
  cases rx
  cases ry
  obtain ⟨us, r1, p1, z1⟩ := I.tuple (Same.sqT hid_le ea)
  obtain ⟨vs, r2, p2, z2⟩ := I.tuple (Same.sqT hid_le eb)
  have l1 := r1.length
  have l2 := r2.length
  have m1 := rpsLen d1
  have m2 := rpsLen d2
  refine ZG.rc_tupB sb.room.units0 (fun i => eqD (ds.getD i .non) (es.getD i .non)) (fun _ s' => ∃ H', Inv X pins σ H' s' ∧ Ex S H H') p1 p2 (fun i h1 h2 s' l => turnX ih sb g r1 r2 d1 d2 i h1 h2 s' l) (fun i s' l => ⟨?_, l⟩) ⟨H, I, Ex.of (Same.refl H) fun st L e => (g.2 st L e).1⟩
  rw [← eqDs_allB (by omega) (by omega)]
  simp only [eqD]
theorem rcX_lst {n : Nat} {ds es : List Da} (ih : ∀ (i : Nat) (d e : Da), ds[i]? = some d → es[i]? = some e → EqGX X c n S O d e) : RcGX X c (n + 1) S O (.lst ds) (.lst es) := by
  intro A pins s σ H x y u v sb I g rx ry hx hy
  obtain ⟨a, xs, rfl, ea, d1⟩ := rpL hx
  obtain ⟨b, ys, rfl, eb, d2⟩ := rpL hy
  cases rx
  cases ry
  have ea := hid_le _ _ ea
  have eb := hid_le _ _ eb
  have m1 := rpsLen d1
  have m2 := rpsLen d2
  have rw0 : eqD (.lst ds) (.lst es) = eqDs ds es := by simp only [eqD]
  by_cases hl : ds.length = es.length
  · refine ZG.rc_listB (N := ds.length) sb.room.units0 (fun i => eqD (ds.getD i .non) (es.getD i .non)) (fun _ s' => ∃ H', Inv X pins σ H' s' ∧ Ex S H H') (fun i s' l => ?_) (fun i s' l => ⟨?_, l⟩) ⟨H, I, Ex.of (Same.refl H) fun st L e => (g.2 st L e).1⟩
    · obtain ⟨H1, I1, e1⟩ := id l
      have no : ∀ {p : Addr} {zs : List V}, H p = some (.lst zs) → hid H O p = some (.lst zs) → ∀ st L, S = some (st, L) → p ≠ st := fun {p zs} e1 e2 st L e z => by subst z; rw [hid_in (g.2 _ _ e).2] at e2; cases e2
      obtain ⟨_, _, ra, ea', _⟩ := rpL hx
      cases ra
      obtain ⟨_, _, rb, eb', _⟩ := rpL hy
      cases rb
      have ea2 : H a = some (.lst xs) := ea
      have h1 := e1.1 a _ (fun st L e z => by subst z; rw [hid_in (g.2 _ _ e).2] at ea'; cases ea') ea2
      have h2 := e1.1 b _ (fun st L e z => by subst z; rw [hid_in (g.2 _ _ e).2] at eb'; cases eb') eb
      obtain ⟨z, us, k, r1, e⟩ := I1.hok a _ h1
      obtain ⟨z2, vs, k2, r2, e2⟩ := I1.hok b _ h2
      have n1 := r1.length
      have n2 := r2.length
      refine ⟨us.toArray, vs.toArray, k, k2, e, e2, by rw [List.size_toArray]; omega, by rw [List.size_toArray]; omega, fun h1 h2 => ?_⟩
      exact turnX ih sb g r1 r2 d1 d2 i h1 h2 s' l
    · rw [rw0, eqDs_all, hl, Nat.min_self, beq_self_eq_true, Bool.and_true]
  · obtain ⟨us, r1, p1, _⟩ := I.list (SqL.of ea)
    obtain ⟨vs, r2, p2, _⟩ := I.list (SqL.of eb)
    have n1 := r1.length
    have n2 := r2.length
    have z : eqD (.lst ds) (.lst es) = false := by rw [rw0, eqDs_all]; simp [hl]
    rw [z]
    exact SeqAt.RcAt.lists_lengths p1.isList p2.isList (by simp; omega) sb.room.units0 X.prog X.w X.xe _ ⟨rfl, H, I, Ex.of (Same.refl H) fun st L e => (g.2 st L e).1⟩
theorem rty_of {H : Hp} {k : Str} {y : V} {e : Da} (hy : Rp X.K c (S.map (·.1)) (hid H O) y e) (h : (∃ k2 ks2 b, e = .ins k2 ks2 b ∧ (k2 = k ∨ PySem.W.subIn X.K (.ref (c.cls k2)) (.ref (c.cls k)) = some false)) ∨ okTy e = true) : RTy X.K c k H y := by
  rcases h with ⟨k2, ks2, b, rfl, h⟩ | h
  · obtain ⟨p, dx, xs, rfl, ok, e1, _, _⟩ := rpO hy
    exact .inl ⟨p, k2, dx, _, rfl, hid_le _ _ e1, h⟩
  · cases e <;> first | (cases h; done) | skip
    · cases hy; exact .inr (.inl rfl)
    · cases hy; exact .inr (.inr (.inr (.inl ⟨_, rfl⟩)))
    · cases hy; exact .inr (.inr (.inl ⟨_, rfl⟩))
    · cases hy; exact .inr (.inr (.inr (.inr (.inl ⟨_, rfl⟩))))
    · obtain ⟨a, xs, rfl, ea, _⟩ := rpT hy; exact .inr (.inr (.inr (.inr (.inr (.inl ⟨a, xs, rfl, Same.sqT hid_le ea⟩)))))
    · obtain ⟨a, xs, rfl, ea, _⟩ := rpL hy; exact .inr (.inr (.inr (.inr (.inr (.inr ⟨a, xs, rfl, SqL.of (hid_le _ _ ea)⟩)))))
theorem rcX_ins {k : Nat} (T : ETabOk X c k tab) {x : Str} {ks : List Str} {a : List Da} {e : Da} {ps : PSp} (hm : (x, ps) ∈ tab) (hp : ps [.ins x ks a, e] (fun r => r = .bl (eqD (.ins x ks a) e)) (fun _ => False))
    (ho : (∃ k2 ks2 b, e = .ins k2 ks2 b ∧ (k2 = x ∨ ((∃ ps2, (k2, ps2) ∈ tab) ∧ SUB k2 x = false))) ∨ okTy e = true) : RcGX X c k S O (.ins x ks a) e := by
  intro A pins s σ H u v y z sb I g rx ry hx hy
  obtain ⟨IF, ⟨gs, ok⟩, f, fd, pn, k', sp, hk, hM, hb, F, hs⟩ := T _ hm
  obtain ⟨p, dx, xs, rfl, ok', e1, hl, ra⟩ := rpO hx
  have t : RTy X.K c x H v := rty_of hy (ho.imp (fun ⟨k2, ks2, b, e, h⟩ => ⟨k2, ks2, b, e, h.imp id fun ⟨⟨ps2, m2⟩, h⟩ => by
    obtain ⟨_, ⟨g2, ok2⟩, _⟩ := T _ m2
    rw [ok2.sb x IF.has, h]⟩) id)
  cases rx
  obtain ⟨tb, LT, hn⟩ := looks_rty I IF ry t
  obtain ⟨mA, J, _⟩ := ins_get I.hok (hid_le _ _ e1)
  obtain ⟨od, J, _⟩ := J.look
  obtain ⟨m, hF⟩ := I.fr
  refine PySem.W.cmp_K (op := .Eq) (tb := tb) sb.room.units0 hF I.ok.mod.kin J LT hn hM.at_ hM.fn ?_
  have r2 : Vals [V.ref p, v] [Value.ref p, z] := .cons rfl (.cons ry .nil)
  have q : sp [.ref p, v] H (fun r H' => r = .bl (eqD (.ins x ks a) e) ∧ Ex S H H') E0 := hs S O H _ _ _ _ _ _ g.1 g.2 (.cons hx (.cons hy .nil)) hp (fun r d H' ex rr q => ⟨by subst q; exact rpB rr, ex⟩) (fun _ _ _ f => f.elim)
  refine thn (run_at ⟨sb.room.mono hk, sb.fr⟩ F hb I r2 q) fun w s' hw => ?_
  obtain ⟨zv, H', I', rz, ez, ex⟩ := hw
  subst ez
  cases rz
  exact ⟨rfl, H', I', ex⟩
theorem RcGX.mono {n m : Nat} {d e : Da} (h : RcGX X c n S O d e) (l : n ≤ m) : RcGX X c m S O d e := fun A pins s σ H x y u v sb => h A pins s σ H x y u v (sb.mono l)
/-- == of what may be compared -/
theorem eqX_main {k : Nat} (T : ETabOk X c k tab) : ∀ {n : Nat} {d e : Da}, CqX tab n d e → EqGX X c (k + n) S O d e ∧ (¬ (flD d = true ∧ flD e = true) → RcGX X c (k + n) S O d e)
  | 0, d, e, h => ⟨flat_EqGX _ h.1 h.2, fun z => absurd h z⟩
  | n + 1, d, e, h => by
    have same : ∀ pins σ H s (I : Inv X pins σ H s) (g : GoodH S O H) v, Rp X.K c (S.map (·.1)) (hid H O) v d → Rp X.K c (S.map (·.1)) (hid H O) v e → eqD d e = true := fun pins σ H s I g v h1 h2 => by
      have z := Rp.det I g d v e h1 h2
      subst z
      exact CqX.refl h
    rcases h with h | ⟨a, b, rfl, rfl, h⟩ | ⟨a, b, rfl, rfl, h⟩ | ⟨x, ks, a, rfl, ⟨ps, hm, hp⟩, _, ho⟩
    · exact ⟨flat_EqGX _ h.1 h.2, fun z => absurd h z⟩
    · have r := rcX_tup (S := S) (O := O) (n := k + n) fun i u v hu hv => (eqX_main T (h i u v hu hv)).1
      exact ⟨r.eqG same rfl rfl (fun z q => by cases q) (fun z q => by cases q), fun _ => r⟩
    · have r := rcX_lst (S := S) (O := O) (n := k + n) fun i u v hu hv => (eqX_main T (h i u v hu hv)).1
      exact ⟨r.eqG same rfl rfl (fun z q => by cases q) (fun z q => by cases q), fun _ => r⟩
    · have r := (rcX_ins (S := S) (O := O) T hm hp ho).mono (show k ≤ k + (n + 1) by omega)
      refine ⟨?_, fun _ => r⟩
      by_cases f : flD e = false
      · exact r.eqG same rfl f (fun z q => by cases q) (fun z q => by
          subst q
          rcases ho with ⟨_, _, _, q, _⟩ | q
          · cases q
          · cases q)
      · intro A pins s σ H u v y z sb I g rx ry hx hy
        obtain ⟨p, dx, xs, rfl, ok', e1, hl, ra⟩ := rpO hx
        cases rx
        have ne : ∀ b, z ≠ .ref b := by
          cases e <;> first | (exact absurd rfl f) | skip
          all_goals (cases hy; first | (obtain ⟨tk, rfl⟩ := ry; exact fun _ q => by cases q) | (cases ry; exact fun _ q => by cases q))
        cases ry' : z <;> first | exact absurd ry' (ne _) | skip
        all_goals
          subst ry'
          refine (?_ : wpAny (model X.prog X.w) A (eqBool (.ref p) _) _ X.xe s)
          unfold eqBool
          refine wpAny_holding ?_
          refine wpAny_ite_split (fun hab => absurd (eq_of_beq hab) (fun q => by cases q)) (fun _ => ?_)
          refine wpAny_bind (wpAny_mono (r A pins s σ H (.ref p) _ _ _ sb I g (show RelV (.ref p) (.ref p) from rfl) ry hx hy) (fun v s2 hv => ?_) fun _ _ x => x)
          obtain ⟨rfl, q⟩ := hv
          exact wpAny_truthy_bool ⟨rfl, q⟩
/-- == with own instances within -/
def rEqX (K : PySem.W.Frag) (c : CEnv) (tab : ETab) : R2 := fun x y H Q => ∃ (S : Option (Addr × Addr)) (O : List Addr) (n : Nat) (d e : Da), n ≤ 4 ∧ GoodH S O H ∧ Rp K c (S.map (·.1)) (hid H O) x d ∧ Rp K c (S.map (·.1)) (hid H O) y e ∧ CqX tab n d e ∧ ¬ (flD d = true ∧ flD e = true) ∧ ∀ H', Ex S H H' → Q (.bl (eqD d e)) H'
def uEqX (K : PySem.W.Frag) (c : CEnv) (tab : ETab) : R2 := fun x y H Q => uEq K x y H Q ∨ rEqX K c tab x y H Q
theorem op_rEqX {k : Nat} (T : ETabOk X c k tab) (hr : Room (k + 4) X.A) : OpR X (compareOp .Eq) (rEqX X.K c tab) := by
  intro pins s σ H x y v u Q I rx ry ⟨S, O, n, d, e, hn, g, hx, hy, hc, nf, q⟩
  show wpAny (model X.prog X.w) X.A (richCompare .Eq v u) (EP X pins σ Q) X.xe s
  refine wpAny_mono ((eqX_main (S := S) (O := O) T hc).2 nf X.A pins s σ H x y v u ⟨hr.mono (by omega), rfl⟩ I g rx ry hx hy) (fun r s' z => ?_) fun _ _ x => x
  obtain ⟨rfl, H', I', ex⟩ := z
  exact ⟨.bl _, H', I', rfl, q H' ex⟩
theorem op_uEqX {k : Nat} (T : ETabOk X c k tab) (hr : Room (k + 4) X.A) : OpR X (compareOp .Eq) (uEqX X.K c tab) := (op_uEq hr.units).or (op_rEqX T hr)
end
def pEqX (tab : ETab) : PR2 := fun x y Q => ∃ n, n ≤ 4 ∧ (Cq n x y ∨ (CqX tab n x y ∧ ¬ (flD x = true ∧ flD y = true))) ∧ Q (.bl (eqD x y))
section
variable {N : Cn}
theorem sim_eqX {tab : ETab} : SimR N (uEqX N.K N.c tab) (pEqX tab) := by
  intro w H0 B ow H σ ρ x y dx dy Q Q' r hx hy ⟨n, hn, h, q⟩ k
  rcases h with h | ⟨h, nf⟩
  · exact .inl (sim_eq w H0 B ow H σ ρ x y dx dy Q Q' r hx hy ⟨n, by omega, h, q⟩ k)
  · exact .inr ⟨w.S, hl w ow, n, dx, dy, hn, ⟨r.occ, fun st L e => ⟨(r.dr st L e).1, r.stO st L e⟩⟩, hx, hy, h, nf, fun H' ex => k _ _ H' (r.ex ex) ex (.bl _) q⟩
end

/-! ### fresh lists of other makings -/
def pNewL (p : PAr) : PAr := fun ρ Q => p ρ fun ds => ds.length ≤ 100000 ∧ Q ds
def listF1 (ds : List Da) (Q : List Da → Prop) : Prop := match ds with
  | [.lst l] => Q l
  | [.tup l] => Q l
  | _ => False
def pListF (p : PAr) : PAr := fun ρ Q => p ρ fun ds => listF1 ds Q
def addF1 (x y : Da) (Q : List Da → Prop) : Prop := match x, y with
  | .lst l, .lst m => l.length + m.length ≤ 100000 ∧ Q (l ++ m)
  | _, _ => False
def pAddF (a b : PEx) : PAr := fun ρ Q => a ρ fun x => b ρ fun y => addF1 x y Q
def slF1 (d : Da) (lo hi : Option Int) (Q : List Da → Prop) : Prop := match d with
  | .lst xs => Q (cutD xs lo hi)
  | _ => False
def pSlF (a : PEx) (l h : POp) : PAr := fun ρ Q => a ρ fun d => l ρ fun lo => h ρ fun hi => slF1 d lo hi Q
section
variable {N : Cn} {w : Pw} {H0 B H H' : Hp} {ow : Ow} {σ : L2.St} {ρ : PEnv}
theorem fresh_go {Q : VK} {Q' : List Da → Prop} {H1 : Hp} {vs : List V} {l : List Da} {a : Addr} (k : ∀ a vs l H', Rel N.K N.c w H0 B ((ρ.length, a) :: ow) H' σ ρ → Ex w.S H H' → H a = none → H' a = some (.lst vs) → RpA N.K N.c w.st (dh w ((ρ.length, a) :: ow) H') vs l → Q' l → Q (.ref a) H')
    (r1 : Rel N.K N.c w H0 B ow H1 σ ρ) (x1 : Ex w.S H H1) (ha : H1 a = none) (h : RpA N.K N.c w.st (dh w ow H1) vs l) (q : Q' l) : Q (.ref a) (upd H1 a (.lst vs)) :=
  k a vs l _ (r1.hide ha) (Ex.trans x1 (r1.exOf (Same.new ha (Same.refl _)))) (x1.none ha) upd_same (RpA.hide ha h (Same.new ha (Same.refl _))) q
theorem simF_list {t : TA} {p : PAr} (ht : SimA N t p) : SimF N (tCB (uList N.K) t) (pListF p) := by
  intro w H0 B aw ow H σ ρ Q Q' r h k
  refine ht w H0 B aw ow H σ ρ _ _ r h fun vs ds H1 r1 x1 h1 q1 => ?_
  unfold listF1 at q1
  split at q1
  · obtain ⟨v, rfl, a⟩ := rps1 h1
    obtain ⟨p, ys, rfl, e, rr⟩ := rpL a
    exact z_list (.inl (SqL.of (hid_le _ _ e))) fun l hl => fresh_go k r1 x1 hl rr q1
  · obtain ⟨v, rfl, a⟩ := rps1 h1
    obtain ⟨p, ys, rfl, e, rr⟩ := rpT a
    exact z_list (.inr (Same.sqT hid_le e)) fun l hl => fresh_go k r1 x1 hl rr q1
  · exact q1.elim
theorem simF_add {a b : TE} {pa pb : PEx} (ha : SimE N a pa) (hb : SimE N b pb) : SimF N (tOp (uAdd N.K) a b) (pAddF pa pb) := by
  intro w H0 B aw ow H σ ρ Q Q' r h k
  refine ha w H0 B aw ow H σ ρ _ _ r h fun x dx H1 r1 s1 h1 q1 => ?_
  refine hb w H0 B aw ow H1 σ ρ _ _ r1 q1 fun y dy H2 r2 s2 h2 q2 => ?_
  unfold addF1 at q2
  split at q2
  · obtain ⟨a, xs, rfl, e1, ra⟩ := rpL (rpS (s2.dh r1) h1)
    obtain ⟨b, ys, rfl, e2, rb⟩ := rpL h2
    exact .inl ⟨a, b, xs, ys, rfl, rfl, hid_le _ _ e1, hid_le _ _ e2, Nat.le_trans (by rw [rpsLen ra, rpsLen rb]; exact q2.1) (by decide), fun p hp => fresh_go k r2 (Ex.trans s1 s2) hp (rpsApp ra rb) q2.2⟩
  · exact q2.elim
theorem simF_sl {a : TE} {tl th : TO} {p : PEx} {pl ph : POp} (ha : SimE N a p) (hl : SimO N tl pl) (hh : SimO N th ph) : SimF N (tSl (uSl N.K) a tl th) (pSlF p pl ph) := by
  intro w H0 B aw ow H σ ρ Q Q' r z k
  refine ha w H0 B aw ow H σ ρ _ _ r z fun v d H1 r1 s1 h1 q1 => ?_
  refine hl w H0 B aw ow H1 σ ρ _ _ r1 q1 fun lo H2 r2 s2 q2 => ?_
  refine hh w H0 B aw ow H2 σ ρ _ _ r2 q2 fun hi H3 r3 s3 q3 => ?_
  unfold slF1 at q3
  split at q3
  · obtain ⟨p, xs, rfl, e, rr⟩ := rpL (rpS ((Ex.trans s2 s3).dh r1) h1)
    exact z_slL (SqL.of (hid_le _ _ e)) fun l hl => fresh_go k r3 (Ex.trans s1 (Ex.trans s2 s3)) hl (rps_cut rr) q3
  · exact q3.elim
end

/-! ### the draws -/
def ps_law_next : PSp := fun ds Q _ => ∃ m : Int, ds = [.st, .int m] ∧ 0 < m ∧ m < 1000000000000000000 ∧ ∀ r : Int, 0 ≤ r → r < m → Q (.int r)
theorem b_law_next {K : PySem.W.Frag} {c : CEnv} : SpSim K c (sp_law_next K) ps_law_next := by
  rintro S O H vs ds Q E Q' E' oc dr r ⟨m, rfl, h0, h1, q⟩ k _
  obtain ⟨v, u, rfl, a, b⟩ := rps2 r
  cases b
  obtain ⟨st, hs, rfl⟩ := rpSt a
  obtain ⟨L, hs⟩ : ∃ L, S = some (st, L) := by
    cases S with
    | none => cases hs
    | some z => cases hs; exact ⟨z.2, rfl⟩
  refine ⟨st, L, m, rfl, (dr _ _ hs).1, h0, h1, fun r H' h2 h3 d _ ne => k _ _ H' ⟨fun a o n e => ?_, fun st' L' e => ?_⟩ (.int r) (q r h2 h3)⟩
  · rw [ne a (n _ _ hs)]; exact e
  · rw [hs] at e; cases e; exact d
theorem next_c {n : Int} {Q : Da → Prop} {E : Str → Prop} (h0 : 0 < n) (h1 : n < 1000000000000000000) (k : ∀ r : Int, 0 ≤ r → r < n → Q (.int r)) : ps_law_next [.st, .int n] Q E := ⟨n, rfl, h0, h1, k⟩
/-- a law: its state is made first -/
theorem wd_law {K : PySem.W.Frag} {c : CEnv} {T : TS} {P : PSt} {Nn : List Str} {m : Nat} (hS : SimS ⟨K, c, W0, fun _ _ => False⟩ T P) (hn : Nn.length = m + 2) (hp : P { nx := fun _ => False, rt := fun d => d = .bl true } (none :: some (.d .st) :: List.replicate m none)) :
    Wd (tSeq (tAsg (tLst (tCons (tCB (uList K) (tCons (tVar 0) tNil)) (tCons (tC (.int 0)) (tCons (tC (.int 0)) tNil)))) (gName 1)) T) Nn 1 (sp_law K) := by
  rintro vs H Q E ⟨a, ns, rfl, ha, hl, q⟩
  refine ⟨rfl, ?_⟩
  have es : L2.start Nn [V.ref a] = some (V.ref a) :: none :: List.replicate m none := by
    unfold L2.start; rw [hn]; rfl
  rw [es]
  refine z_seq (z_asg (z_lst (z_cons (z_cb (z_cons (z_var rfl (z_nil ?_)))))))
  refine z_list (.inl ha) fun L hL => ?_
  refine z_cons (z_c (z_cons (z_c (z_nil ?_))))
  refine z_newL (by simp) fun st hst => ?_
  have d := Draw.start (ns := ns) hL hst
  show T _ (some (V.ref a) :: some (.ref st) :: List.replicate m none) _
  obtain ⟨oS, hS0⟩ := d.occ
  generalize upd (upd H L (HO.lst (List.map V.int ns))) st (HO.lst [V.ref L, V.int 0, V.int 0]) = G at *
  refine hS ⟨some (st, L), [st], [st], none⟩ G (hid G [st]) (fun _ _ _ _ _ _ f => f.elim) [] _ _ (none :: some (.d .st) :: List.replicate m none) _ { nx := fun _ => False, rt := fun d => d = .bl true } ⟨fun _ _ _ _ _ f => f.elim, fun _ _ _ _ _ f => f.elim, fun _ _ _ _ _ f => f.elim, fun ow H1 σ ρ v d r1 h1 q1 => ?_⟩ ?_ hp
  · have q1 : d = .bl true := q1
    subst q1
    rw [rpB h1]
    exact q H1
  · refine ⟨?_, fun st' L' e => ?_, fun p h => by (cases h), fun p h => by (cases h), fun a o _ e => e, fun p h => by (cases h), ?_, fun i x e => ?_, Same.refl _⟩
    · exact Occ.cons hS0 Occ.nil
    · cases e; exact ⟨d, List.mem_cons_self .., List.mem_cons_self ..⟩
    · simp
    · match i with
      | 0 => cases e
      | 1 => cases e; exact ⟨.ref st, rfl, .st rfl⟩
      | i + 2 =>
        rw [List.getElem?_cons_succ, List.getElem?_cons_succ, List.getElem?_replicate] at e
        split at e <;> cases e

/-! ### the steps of a reading without a heap -/
section
variable {ρ : PEnv} {Q : Da → Prop} {QA : List Da → Prop} {QB : Bool → Prop} {d x y : Da} {i j : Int} {n : Nat} {a b e : PEx} {t u : PAr} {c c2 : PTe} {D : PD} {p q : PSt} {l l2 ds : List Da} {s s2 f : Str} {bb b2 : Bool} {ps : PSp} {g : PTg} {Wp : WP} {r r2 : PR2} {k : Nat}
theorem p_var (h : ρ[n]? = some (some (.d d))) (k : Q d) : pVar n ρ Q := ⟨d, h, k⟩
theorem p_c (k : Q d) : pC d ρ Q := k
theorem p_nil (k : QA []) : pNil ρ QA := k
theorem p_cons (k : a ρ fun x => t ρ fun xs => QA (x :: xs)) : pCons a t ρ QA := k
theorem p_op (k : a ρ fun x => b ρ fun y => r x y Q) : pOp r a b ρ Q := k
theorem p_un {r1 : PR1} (k : a ρ fun x => r1 x Q) : pUn r1 a ρ Q := k
theorem p_cb {rl : PRl} (k : t ρ fun x => rl x Q) : pCB rl t ρ Q := k
theorem p_lst (k : t ρ fun ds => ds.length ≤ 100000 ∧ Q (.lst ds)) : pLst t ρ Q := k
theorem p_tup (k : t ρ fun ds => ds.length ≤ 100000 ∧ Q (.tup ds)) : pTup t ρ Q := k
theorem p_nl {P : Prop} (h : ds.length ≤ 100000) (k : P) : ds.length ≤ 100000 ∧ P := ⟨h, k⟩
theorem p_test (k : a ρ fun d => ∃ b, d = .bl b ∧ QB b) : pTest a ρ QB := k
theorem p_bl {P : Bool → Prop} (k : P bb) : ∃ b, Da.bl bb = .bl b ∧ P b := ⟨bb, rfl, k⟩
theorem p_tru (k : a ρ fun d => ∃ b, truD d b ∧ QB b) : pTru a ρ QB := k
theorem p_trb {P : Bool → Prop} (k : P bb) : ∃ b, truD (.bl bb) b ∧ P b := ⟨bb, rfl, k⟩
theorem p_tri {P : Bool → Prop} (k : P (i != 0)) : ∃ b, truD (.int i) b ∧ P b := ⟨_, rfl, k⟩
theorem p_trl {P : Bool → Prop} (k : P (!l.isEmpty)) : ∃ b, truD (.lst l) b ∧ P b := ⟨_, rfl, k⟩
theorem p_trt {P : Bool → Prop} (k : P (!l.isEmpty)) : ∃ b, truD (.tup l) b ∧ P b := ⟨_, rfl, k⟩
theorem p_trn {P : Bool → Prop} (k : P false) : ∃ b, truD .non b ∧ P b := ⟨_, rfl, k⟩
theorem p_and (k : c ρ fun b => if b = true then c2 ρ QB else QB false) : pAnd c c2 ρ QB := k
theorem p_or (k : c ρ fun b => if b = true then QB true else c2 ρ QB) : pOr c c2 ρ QB := k
theorem p_not (k : c ρ fun b => QB (!b)) : pNot c ρ QB := k
theorem p_andV (k : a ρ fun x => ∃ k, x = .bl k ∧ if k = true then b ρ Q else Q (.bl false)) : pAndV a b ρ Q := k
theorem p_orV (k : a ρ fun x => ∃ k, x = .bl k ∧ if k = true then Q (.bl true) else b ρ Q) : pOrV a b ρ Q := k
theorem p_notV (k : a ρ fun x => ∃ k, x = .bl k ∧ Q (.bl (!k))) : pNotV a ρ Q := k
theorem p_if (k : c ρ fun k => if k = true then a ρ Q else b ρ Q) : pIf c a b ρ Q := k
theorem p_chain (k : a ρ fun x => b ρ fun y => r x y fun z => ∃ k, z = .bl k ∧ if k = true then e ρ fun u => r2 y u Q else Q (.bl false)) : pChain r r2 a b e ρ Q := k
theorem p_yes (k : QB true) : pYes ρ QB := k
theorem p_fldt (k : a ρ fun d => ∃ x ks l y, d = .ins x ks l ∧ (ks.zip l).lookup f = some y ∧ Q y) : pFld a f ρ Q := k
theorem p_fld {P : Da → Prop} {X : Str} {KS : List Str} {L : List Da} (h : (KS.zip L).lookup f = some d) (k : P d) : ∃ x ks l y, Da.ins X KS L = .ins x ks l ∧ (ks.zip l).lookup f = some y ∧ P y := ⟨X, KS, L, d, rfl, h, k⟩
-- operators
theorem p_add (k : Q (.int (i + j))) : pAdd (.int i) (.int j) Q := k
theorem p_addS (h : s.length + s2.length ≤ 100000) (k : Q (.str (s ++ s2))) : pAdd (.str s) (.str s2) Q := ⟨h, k⟩
theorem p_addL (h : l.length + l2.length ≤ 100000) (k : Q (.lst (l ++ l2))) : pAdd (.lst l) (.lst l2) Q := ⟨h, k⟩
theorem p_addT (h : l.length + l2.length ≤ 100000) (k : Q (.tup (l ++ l2))) : pAdd (.tup l) (.tup l2) Q := ⟨h, k⟩
theorem p_sub (k : Q (.int (i - j))) : pSub (.int i) (.int j) Q := k
theorem p_mul (h : MulOk i j) (k : Q (.int (i * j))) : pMul (.int i) (.int j) Q := ⟨h, k⟩
theorem p_div (h : CDivW i j) (k : Q (.int (i / j))) : pDiv (.int i) (.int j) Q := ⟨h, k⟩
theorem p_mod (h : 0 < j) (k : Q (.int (i % j))) : pMod (.int i) (.int j) Q := ⟨h, k⟩
theorem p_pow (h : CPow i j) (k : Q (.int (i ^ j.toNat))) : pPow (.int i) (.int j) Q := ⟨h, k⟩
theorem p_neg (k : Q (.int (-i))) : pNeg (.int i) Q := k
theorem p_lt (k : Q (.bl (decide (i < j)))) : pLt (.int i) (.int j) Q := k
theorem p_ltS (k : Q (.bl (decide (s.cps.toList < s2.cps.toList)))) : pLt (.str s) (.str s2) Q := k
theorem p_ltIS (k : Q (.bl (if i = j then decide (s.cps.toList < s2.cps.toList) else decide (i < j)))) : pLt (.tup [.int i, .str s]) (.tup [.int j, .str s2]) Q := k
theorem p_le (k : Q (.bl (decide (i ≤ j)))) : pLe (.int i) (.int j) Q := k
theorem p_leS (k : Q (.bl (!decide (s2.cps.toList < s.cps.toList)))) : pLe (.str s) (.str s2) Q := k
theorem p_gt (k : Q (.bl (decide (j < i)))) : pGt (.int i) (.int j) Q := k
theorem p_gtS (k : Q (.bl (decide (s2.cps.toList < s.cps.toList)))) : pGt (.str s) (.str s2) Q := k
theorem p_ge (k : Q (.bl (decide (j ≤ i)))) : pGe (.int i) (.int j) Q := k
theorem p_geS (k : Q (.bl (!decide (s.cps.toList < s2.cps.toList)))) : pGe (.str s) (.str s2) Q := k
theorem p_eqf (h1 : flD x = true) (h2 : flD y = true) (k : Q (.bl (eqD x y))) : pEq x y Q := ⟨0, by decide, Cq.flat h1 h2, k⟩
theorem p_nef (h1 : flD x = true) (h2 : flD y = true) (k : Q (.bl (!eqD x y))) : pNe x y Q := ⟨0, by decide, Cq.flat h1 h2, k⟩
theorem eqD_II : eqD (.int i) (.int j) = decide (i = j) := by simp only [eqD, eq0]
theorem eqD_SS : eqD (.str s) (.str s2) = decide (s = s2) := by simp only [eqD, eq0]
theorem eqD_BB : eqD (.bl bb) (.bl b2) = decide (bb = b2) := by simp only [eqD, eq0]
theorem eqD_NN : eqD .non .non = true := by simp only [eqD, eq0]
theorem eqD_IN : eqD (.int i) .non = false := by simp only [eqD, eq0]
theorem eqD_NI : eqD .non (.int i) = false := by simp only [eqD, eq0]
theorem eqD_SN : eqD (.str s) .non = false := by simp only [eqD, eq0]
theorem eqD_NS : eqD .non (.str s) = false := by simp only [eqD, eq0]
theorem eqD_IS : eqD (.int i) (.str s) = false := by simp only [eqD, eq0]
theorem eqD_SI : eqD (.str s) (.int i) = false := by simp only [eqD, eq0]
theorem p_eq (k : Q (.bl (decide (i = j)))) : pEq (.int i) (.int j) Q := p_eqf rfl rfl (by rw [eqD_II]; exact k)
theorem p_eqS (k : Q (.bl (decide (s = s2)))) : pEq (.str s) (.str s2) Q := p_eqf rfl rfl (by rw [eqD_SS]; exact k)
theorem p_eqB (k : Q (.bl (decide (bb = b2)))) : pEq (.bl bb) (.bl b2) Q := p_eqf rfl rfl (by rw [eqD_BB]; exact k)
theorem p_ne (k : Q (.bl (!decide (i = j)))) : pNe (.int i) (.int j) Q := p_nef rfl rfl (by rw [eqD_II]; exact k)
theorem p_neS (k : Q (.bl (!decide (s = s2)))) : pNe (.str s) (.str s2) Q := p_nef rfl rfl (by rw [eqD_SS]; exact k)
theorem p_neB (k : Q (.bl (!decide (bb = b2)))) : pNe (.bl bb) (.bl b2) Q := p_nef rfl rfl (by rw [eqD_BB]; exact k)
theorem p_eqIS (k : Q (.bl false)) : pEq (.int i) (.str s) Q := p_eqf rfl rfl (by rw [eqD_IS]; exact k)
theorem p_eqSI (k : Q (.bl false)) : pEq (.str s) (.int i) Q := p_eqf rfl rfl (by rw [eqD_SI]; exact k)
theorem p_is (k : Q (.bl (isNon x))) : pIs x .non Q := by cases x <;> exact k
theorem p_isNot (k : Q (.bl (!isNon x))) : pIsNot x .non Q := by cases x <;> exact k
theorem p_isB (k : Q (.bl (decide (bb = b2)))) : pIs (.bl bb) (.bl b2) Q := k
theorem p_ixL (h : atI l i = some d) (k : Q d) : pIx (.lst l) (.int i) Q := ⟨d, h, k⟩
theorem p_ixT (h : atI l i = some d) (k : Q d) : pIx (.tup l) (.int i) Q := ⟨d, h, k⟩
theorem p_lenL (k : Q (.int l.length)) : pLen [.lst l] Q := k
theorem p_lenT (k : Q (.int l.length)) : pLen [.tup l] Q := k
theorem p_lenS (h : s.length ≤ 100000) (k : Q (.int s.length)) : pLen [.str s] Q := ⟨h, k⟩
theorem p_int (k : Q (.int i)) : pInt [.int i] Q := k
theorem p_intB (k : Q (.int (if bb then 1 else 0))) : pInt [.bl bb] Q := k
theorem p_max (k : Q (.int (if j > i then j else i))) : pMax [.int i, .int j] Q := k
theorem p_min (k : Q (.int (if j < i then j else i))) : pMin [.int i, .int j] Q := k
theorem p_abs (k : Q (.int (if i < 0 then -i else i))) : pAbs [.int i] Q := k
theorem p_listL (k : Q (.lst l)) : pList [.lst l] Q := k
theorem p_listT (k : Q (.lst l)) : pList [.tup l] Q := k
theorem p_tupleL (k : Q (.tup l)) : pTuple [.lst l] Q := k
theorem p_tupleT (k : Q (.tup l)) : pTuple [.tup l] Q := k
theorem p_strI (h : i.natAbs.log2 < 1920) (k : Q (.str (toString i))) : pStr [.int i] Q := ⟨h, k⟩
theorem p_strS (k : Q (.str s)) : pStr [.str s] Q := k
theorem p_isi {m : String} (h : okTy x = true) (hn : m = "int" ∨ m = "bool" ∨ m = "str" ∨ m = "tuple" ∨ m = "list") (k : Q (.bl (isTy m x))) : pIsi [x, .ty m] Q := ⟨h, hn, k⟩
theorem p_isC (k : a ρ fun d => isC1 s d Q) : pIsC s a ρ Q := k
theorem p_isCi {X : Str} {KS : List Str} {L : List Da} (k : Q (.bl (SUB X s))) : isC1 s (.ins X KS L) Q := k
-- calls
theorem p_cal (k : t ρ fun ds => ps ds Q fun _ => False) : pCal ps t ρ Q := k
theorem p_calS (k : t ρ fun ds => ps ds Q fun x => Wp x ρ) : pCalS Wp ps t ρ Q := k
theorem p_mt {m : Str} (k : a ρ fun d => ∃ ks l, d = .ins s ks l ∧ ks.contains m = false ∧ t ρ fun ds => ps (d :: ds) Q fun _ => False) : pMt s m ps a t ρ Q := k
theorem p_mtX {m : Str} (k : a ρ fun d => ∃ ks l, d = .ins s ks l ∧ ks.contains m = false ∧ t ρ fun ds => ps (d :: ds) Q fun x => Wp x ρ) : pMtX Wp s m ps a t ρ Q := k
theorem p_pr (k : a ρ fun d => ∃ ks l, d = .ins s ks l ∧ ps [d] Q fun _ => False) : pPr s ps a ρ Q := k
theorem p_insM {X : Str} {KS : List Str} {L : List Da} {m : Str} {P : Prop} (h : KS.contains m = false) (k : P) : ∃ ks l, Da.ins X KS L = .ins X ks l ∧ ks.contains m = false ∧ P := ⟨KS, L, rfl, h, k⟩
theorem p_insP {X : Str} {KS : List Str} {L : List Da} {P : Prop} (k : P) : ∃ ks l, Da.ins X KS L = .ins X ks l ∧ P := ⟨KS, L, rfl, k⟩
theorem p_mk {gs : List Str} {pi : PSi} (k : t ρ fun ds => pi ds (fun l => Q (.ins s gs l)) fun _ => False) : pMk s gs pi t ρ Q := k
theorem p_mkX {gs : List Str} {pi : PSi} (k : t ρ fun ds => pi ds (fun l => Q (.ins s gs l)) fun y => Wp y ρ) : pMkX Wp s gs pi t ρ Q := k
theorem p_mkK {gs : List Str} {pi : PSi} {n nk : Nat} {ms : List Cst} {sel : List (Bool × Nat)} (k : t ρ fun ds => u ρ fun dz => ds.length = n ∧ dz.length = nk ∧ pi (selD sel ms ds dz) (fun l => Q (.ins s gs l)) fun y => Wp y ρ) : pMkK Wp s gs n nk ms sel pi t u ρ Q := k
-- slices
theorem p_sl {lo hi : POp} (k : a ρ fun d => lo ρ fun l => hi ρ fun h => slD d l h Q) : pSl a lo hi ρ Q := k
theorem p_slL {o1 o2 : Option Int} (k : Q (.lst (cutD l o1 o2))) : slD (.lst l) o1 o2 Q := k
theorem p_slT {o1 o2 : Option Int} (k : Q (.tup (cutD l o1 o2))) : slD (.tup l) o1 o2 Q := k
theorem p_noPart {QO : Option Int → Prop} (k : QO none) : pNoPart ρ QO := k
theorem p_part {QO : Option Int → Prop} (k : a ρ fun d => ∃ i, d = .int i ∧ QO (some i)) : pPart a ρ QO := k
theorem p_parti {P : Int → Prop} (k : P i) : ∃ j, Da.int i = .int j ∧ P j := ⟨i, rfl, k⟩
-- statements
theorem p_next (k : D.nx ρ) : pNext D ρ := k
theorem p_seq (k : p { D with nx := q D } ρ) : pSeq p q D ρ := k
theorem p_cut (M : PEnv → Prop) (k : p { D with nx := M } ρ) (h : ∀ ρ', M ρ' → q D ρ') : pCut p q D ρ := ⟨M, k, h⟩
theorem p_cutI (k : p { D with nx := q D } ρ) : pCut p q D ρ := ⟨q D, k, fun _ h => h⟩
theorem p_asg (k : a ρ fun d => D.nx (ρ.set n (some (.d d)))) : pAsg a (pgName n) D ρ := k
theorem p_asgG (k : a ρ fun d => g d ρ D.nx) : pAsg a g D ρ := k
theorem p_drop (k : a ρ fun _ => D.nx ρ) : pDrop a D ρ := k
theorem p_ret (k : a ρ D.rt) : pRet a D ρ := k
theorem p_retN (k : D.rt .non) : pRetN D ρ := k
theorem p_ifS (k : c ρ fun b => if b = true then p D ρ else q D ρ) : pIfS c p q D ρ := k
theorem p_brk (k : D.bk ρ) : pBreak D ρ := k
theorem p_cont (k : D.ct ρ) : pCont D ρ := k
theorem p_rse (k : Wp s ρ) : pRaise Wp s D ρ := k
theorem p_rseA (k : a ρ fun _ => Wp s ρ) : pRaiseA Wp s a D ρ := k
theorem p_asgO (k : t ρ fun l => D.nx (ρ.set n (some (.own l)))) : pAsgO n t D ρ := k
theorem p_app (h : ρ[n]? = some (some (.own l))) (hl : l.length < 100000) (k : a ρ fun d => D.nx (ρ.set n (some (.own (l ++ [d]))))) : pApp n a D ρ := ⟨l, h, hl, k⟩
theorem p_setI (h : ρ[n]? = some (some (.own l))) (k : b ρ fun d => a ρ fun e => ∃ k j, e = .int k ∧ ixN l.length k = some j ∧ D.nx (ρ.set n (some (.own (l.set j d))))) : pSetI n a b D ρ := ⟨l, h, k⟩
theorem p_setJ {P : Nat → Prop} {j : Nat} (h : ixN l.length i = some j) (k : P j) : ∃ k j, Da.int i = .int k ∧ ixN l.length k = some j ∧ P j := ⟨i, j, rfl, h, k⟩
theorem p_frz (h : ρ[n]? = some (some (.own l))) (k : p D (ρ.set n (some (.d (.lst l))))) : pFrz n p D ρ := ⟨l, h, k⟩
theorem p_bor (h : ρ[n]? = some (some (.own l))) (k : a (ρ.set n (some (.d (.lst l)))) fun d => flD d = true ∧ Q d) : pBor n a ρ Q := ⟨l, h, k⟩
theorem p_borT (h : ρ[n]? = some (some (.own l))) (k : c (ρ.set n (some (.d (.lst l)))) QB) : pBorT n c ρ QB := ⟨l, h, k⟩
theorem p_fl {P : Prop} (h : flD d = true) (k : P) : flD d = true ∧ P := ⟨h, k⟩
theorem p_setF {X : Str} {gs ks : List Str} (h : ρ[n]? = some (some (.obj X gs ks l))) (hc : gs.contains f = true) (hk : ks.length < 1000) (k : a ρ fun d => D.nx (ρ.set n (some (.obj X gs (putK f ks) (putL f d ks l))))) : pSetF n f a D ρ := ⟨X, gs, ks, l, h, hc, hk, k⟩
theorem p_gName {QE : PEnv → Prop} (k : QE (ρ.set n (some (.d d)))) : pgName n d ρ QE := k
theorem p_gTup {QE : PEnv → Prop} {tg : PTgs} (h : l.length = k) (z : tg l ρ QE) : pgTup k tg (.tup l) ρ QE := ⟨l, rfl, h, z⟩
theorem p_gNil {QE : PEnv → Prop} (k : QE ρ) : pgNil [] ρ QE := ⟨rfl, k⟩
theorem p_gCons {QE : PEnv → Prop} {tg : PTgs} (k : g d ρ fun ρ' => tg l ρ' QE) : pgCons g tg (d :: l) ρ QE := ⟨d, l, rfl, k⟩
theorem p_try {x : Str} {ys : List Str} {pb : WP → PSt} (k : pb (fun y ρ' => y ∈ ys ∧ if SUB y x = true then p D ρ' else Wp y ρ') D ρ) : pTry x ys pb p Wp D ρ := k
-- walks
theorem p_for {pi : PIt} (k : pi ρ fun l => pLoop l g p D ρ) : pFor pi g p D ρ := k
theorem p_isq (k : a ρ fun d => ∃ l, (d = .lst l ∨ d = .tup l) ∧ QA l) : piSq a ρ QA := k
theorem p_isqL {P : List Da → Prop} (k : P l) : ∃ m, (Da.lst l = .lst m ∨ Da.lst l = .tup m) ∧ P m := ⟨l, .inl rfl, k⟩
theorem p_isqT {P : List Da → Prop} (k : P l) : ∃ m, (Da.tup l = .lst m ∨ Da.tup l = .tup m) ∧ P m := ⟨l, .inr rfl, k⟩
theorem p_irng1 (k : t ρ fun ds => ∃ j : Int, ds = [.int j] ∧ -1000000 ≤ j ∧ j ≤ 1000000 ∧ QA (rngD 0 j.toNat)) : piRng1 t ρ QA := k
theorem p_irng2 (k : t ρ fun ds => ∃ i j : Int, ds = [.int i, .int j] ∧ (-1000000 ≤ i ∧ i ≤ 1000000 ∧ -1000000 ≤ j ∧ j ≤ 1000000) ∧ QA (rngD i (j - i).toNat)) : piRng2 t ρ QA := k
theorem p_rng1 {P : Int → Prop} (h : -1000000 ≤ i ∧ i ≤ 1000000) (k : P i) : ∃ j : Int, [Da.int i] = [.int j] ∧ -1000000 ≤ j ∧ j ≤ 1000000 ∧ P j := ⟨i, rfl, h.1, h.2, k⟩
theorem p_rng2 {P : Int → Int → Prop} (h : -1000000 ≤ i ∧ i ≤ 1000000 ∧ -1000000 ≤ j ∧ j ≤ 1000000) (k : P i j) : ∃ i' j' : Int, [Da.int i, Da.int j] = [.int i', .int j'] ∧ (-1000000 ≤ i' ∧ i' ≤ 1000000 ∧ -1000000 ≤ j' ∧ j' ≤ 1000000) ∧ P i' j' := ⟨i, j, rfl, h, k⟩
theorem p_izip (k : t ρ fun ds => ∃ a b, (ds = [.lst a, .lst b] ∨ ds = [.tup a, .tup b]) ∧ QA (zipD a b)) : piZip t ρ QA := k
theorem p_zipL {P : List Da → List Da → Prop} (k : P l l2) : ∃ a b, ([Da.lst l, Da.lst l2] = [.lst a, .lst b] ∨ [Da.lst l, Da.lst l2] = [.tup a, .tup b]) ∧ P a b := ⟨l, l2, .inl rfl, k⟩
theorem p_zipT {P : List Da → List Da → Prop} (k : P l l2) : ∃ a b, ([Da.tup l, Da.tup l2] = [.lst a, .lst b] ∨ [Da.tup l, Da.tup l2] = [.tup a, .tup b]) ∧ P a b := ⟨l, l2, .inr rfl, k⟩
theorem p_ienum (k : t ρ fun ds => ∃ l, (ds = [.lst l] ∨ ds = [.tup l]) ∧ QA (enumD l)) : piEnum t ρ QA := k
theorem p_enumL {P : List Da → Prop} (k : P l) : ∃ m, ([Da.lst l] = [.lst m] ∨ [Da.lst l] = [.tup m]) ∧ P m := ⟨l, .inl rfl, k⟩
theorem p_enumT {P : List Da → Prop} (k : P l) : ∃ m, ([Da.tup l] = [.lst m] ∨ [Da.tup l] = [.tup m]) ∧ P m := ⟨l, .inr rfl, k⟩
theorem p_loop (I : Nat → PEnv → Prop) (h0 : I 0 ρ) (hs : ∀ i x ρ', l[i]? = some x → I i ρ' → g x ρ' fun ρ2 => p { D with nx := I (i + 1), ct := I (i + 1), bk := D.nx } ρ2) (hd : ∀ ρ', I l.length ρ' → D.nx ρ') : pLoop l g p D ρ := ⟨I, h0, hs, hd⟩
theorem p_loopR {lo : Int} {m : Nat} (I : Nat → PEnv → Prop) (h0 : I 0 ρ) (hs : ∀ (i : Nat) ρ', i < m → I i ρ' → g (.int (lo + i)) ρ' fun ρ2 => p { D with nx := I (i + 1), ct := I (i + 1), bk := D.nx } ρ2) (hd : ∀ ρ', I m ρ' → D.nx ρ') : pLoop (rngD lo m) g p D ρ :=
  ⟨I, h0, fun i x ρ' hx ii => by obtain ⟨h, rfl⟩ := rngD_get hx; exact hs i ρ' h ii, fun ρ' ii => by rw [rngD_len] at ii; exact hd ρ' ii⟩
theorem p_while (I : Nat → PEnv → Prop) (m : Nat) (h0 : I m ρ) (hs : ∀ m ρ, I m ρ → c ρ fun k => if k = true then p { D with nx := fun ρ' => ∃ m', m' < m ∧ I m' ρ', ct := fun ρ' => ∃ m', m' < m ∧ I m' ρ', bk := D.nx } ρ else D.nx ρ) : pWhile c p D ρ := ⟨I, ⟨m, h0⟩, hs⟩
theorem p_lc {pi : PIt} {us : List Nat} (k : pi ρ fun l => pComp l g c e us ρ fun r => Q (.lst r)) : pLc pi g c e us ρ Q := k
theorem p_lcF {pi : PIt} {us : List Nat} (k : pi ρ fun l => pComp l g c e us ρ QA) : pLcF pi g c e us ρ QA := k
theorem p_comp {us : List Nat} (hn : l.length ≤ 90000) (R : Nat → List Da → Prop) (h0 : R 0 []) (hs : ∀ i x acc, l[i]? = some x → R i acc → g x (wipeP ρ us) fun ρ2 => c ρ2 fun b => if b = true then e ρ2 fun y => R (i + 1) (acc ++ [y]) else R (i + 1) acc) (hd : ∀ acc, R l.length acc → QA acc) : pComp l g c e us ρ QA := ⟨hn, R, h0, hs, hd⟩
/-- [f(x) for x in l] -/
theorem p_map {us : List Nat} (hn : l.length ≤ 90000) (F : Da → Da) (hs : ∀ (i : Nat) (x : Da) (R : Da → Prop), l[i]? = some x → R (F x) → g x (wipeP ρ us) fun ρ2 => e ρ2 R) (hd : QA (l.map F)) : pComp l g pYes e us ρ QA := by
  refine ⟨hn, fun i acc => acc = (l.take i).map F, rfl, fun i x acc hx ha => ?_, fun acc ha => by rw [ha, List.take_length]; exact hd⟩
  subst ha
  have := hs i x (fun y => (l.take i).map F ++ [y] = (l.take (i + 1)).map F) hx (by
    rw [List.take_add_one, hx, List.map_append]; rfl)
  refine cast (congrArg (g x (wipeP ρ us)) ?_) this
  funext ρ2
  dsimp only [pYes]
  rw [if_pos rfl]
theorem p_newL (k : t ρ fun ds => ds.length ≤ 100000 ∧ QA ds) : pNewL t ρ QA := k
theorem p_listF (k : t ρ fun ds => listF1 ds QA) : pListF t ρ QA := k
theorem p_listFL (k : QA l) : listF1 [.lst l] QA := k
theorem p_listFT (k : QA l) : listF1 [.tup l] QA := k
theorem p_addF (k : a ρ fun x => b ρ fun y => addF1 x y QA) : pAddF a b ρ QA := k
theorem p_addFL (h : l.length + l2.length ≤ 100000) (k : QA (l ++ l2)) : addF1 (.lst l) (.lst l2) QA := ⟨h, k⟩
theorem p_slF {lo hi : POp} (k : a ρ fun d => lo ρ fun l => hi ρ fun h => slF1 d l h QA) : pSlF a lo hi ρ QA := k
theorem p_slFL {o1 o2 : Option Int} (k : QA (cutD l o1 o2)) : slF1 (.lst l) o1 o2 QA := k
end

local macro_rules | `(tactic| walk_at "pf") => `(tactic| (simp only [List.length_cons, List.length_nil]; with_unfolding_all decide))
local macro_rules | `(tactic| walk_at "po") => `(tactic| (with_reducible first
  | refine p_add ?_ | refine p_sub ?_ | refine p_lt ?_ | refine p_le ?_ | refine p_gt ?_ | refine p_ge ?_ | refine p_eq ?_ | refine p_ne ?_ | refine p_eqS ?_ | refine p_neS ?_ | refine p_eqB ?_ | refine p_neB ?_ | refine p_neg ?_ | refine p_int ?_ | refine p_intB ?_ | refine p_max ?_ | refine p_min ?_ | refine p_abs ?_
  | refine p_is ?_ | refine p_isNot ?_ | refine p_isB ?_ | refine p_eqIS ?_ | refine p_eqSI ?_ | refine p_ltS ?_ | refine p_leS ?_ | refine p_gtS ?_ | refine p_geS ?_ | refine p_lenL ?_ | refine p_lenT ?_ | refine p_listL ?_ | refine p_listT ?_ | refine p_tupleL ?_ | refine p_tupleT ?_ | refine p_strS ?_
  | refine p_slL ?_ | refine p_slT ?_ | refine p_parti ?_ | refine p_isqL ?_ | refine p_isqT ?_ | refine p_zipL ?_ | refine p_zipT ?_ | refine p_enumL ?_ | refine p_enumT ?_ | refine p_bl ?_ | refine p_trb ?_ | refine p_tri ?_ | refine p_trl ?_ | refine p_trt ?_ | refine p_trn ?_ | refine p_isCi ?_ | refine p_insP ?_ | refine p_listFL ?_ | refine p_listFT ?_ | refine p_slFL ?_))
local macro_rules | `(tactic| walk_at "pe") => `(tactic| (with_reducible first
  | ((show pVar _ _ _); refine p_var (by with_unfolding_all rfl) ?_) | refine p_c ?_ | refine p_op ?_ | refine p_cons ?_ | refine p_nil ?_ | refine p_fldt ?_ | refine p_cal ?_ | refine p_cb ?_ | refine p_test ?_ | refine p_un ?_ | refine p_tru ?_ | refine p_and ?_ | refine p_or ?_ | refine p_not ?_ | refine p_andV ?_ | refine p_orV ?_ | refine p_notV ?_ | refine p_if ?_ | refine p_lst ?_ | refine p_tup ?_ | refine p_chain ?_ | refine p_calS ?_ | refine p_mt ?_ | refine p_mtX ?_ | refine p_pr ?_ | refine p_mk ?_ | refine p_mkX ?_ | refine p_mkK ?_ | refine p_sl ?_ | refine p_part ?_ | refine p_noPart ?_ | refine p_isC ?_ | refine p_yes ?_ | refine p_lc ?_ | refine p_lcF ?_ | refine p_isq ?_ | refine p_irng1 ?_ | refine p_irng2 ?_ | refine p_izip ?_ | refine p_ienum ?_ | refine p_newL ?_ | refine p_listF ?_ | refine p_addF ?_ | refine p_slF ?_))
local macro_rules | `(tactic| walk_at "ps") => `(tactic| (with_reducible first
  | refine p_seq ?_ | refine p_asg ?_ | refine p_ifS ?_ | refine p_ret ?_ | refine p_drop ?_ | refine p_next ?_ | refine p_brk ?_ | refine p_cont ?_ | refine p_retN ?_ | refine z_iteT ?_ | refine z_iteF ?_ | refine p_for ?_ | refine p_asgO ?_ | refine p_asgG ?_ | refine p_rse ?_ | refine p_rseA ?_ | refine p_gName ?_ | refine p_gNil ?_ | refine p_gCons ?_ | refine p_try ?_
  | ((show pgTup _ _ _ _ _); refine p_gTup (by with_unfolding_all rfl) ?_)
  | ((show pApp _ _ _ _); refine p_app (by with_unfolding_all rfl) ?_ ?_; rotate_left)
  | ((show pSetI _ _ _ _ _); refine p_setI (by with_unfolding_all rfl) ?_)
  | ((show pFrz _ _ _ _); refine p_frz (by with_unfolding_all rfl) ?_)
  | ((show pBor _ _ _ _); refine p_bor (by with_unfolding_all rfl) ?_)
  | ((show pBorT _ _ _ _); refine p_borT (by with_unfolding_all rfl) ?_)
  | ((show pSetF _ _ _ _ _); refine p_setF (by with_unfolding_all rfl) (by with_unfolding_all rfl) (by with_unfolding_all exact of_decide_eq_true rfl) ?_)))
local macro_rules | `(tactic| walk_at "pp") => `(tactic| with_reducible first
  | ((show pMul _ _ _); refine p_mul (by walk_at "mulok") ?_)
  | ((show pDiv _ _ _); refine p_div (by exact div1 (by omega)) ?_)
  | ((show pMod _ _ _); refine p_mod (by omega) ?_)
  | ((show pPow _ _ _); refine p_pow (by with_unfolding_all exact ⟨by decide, by decide, by decide⟩) ?_; (simp only [Int.reduceToNat, Int.reducePow]))
  | ((show pIx (Da.lst _) _ _); refine p_ixL (by first | with_unfolding_all rfl | assumption) ?_)
  | ((show pIx (Da.tup _) _ _); refine p_ixT (by first | with_unfolding_all rfl | assumption) ?_)
  | (refine p_fld (by with_unfolding_all rfl) ?_)
  | (refine p_insM (by with_unfolding_all rfl) ?_)
  | (refine p_nl (by walk_at "pf") ?_)
  | (refine p_isi (by with_unfolding_all rfl) (by with_unfolding_all decide) ?_)
  | (refine p_fl (by with_unfolding_all rfl) ?_))
local macro_rules | `(tactic| walk_at "p1") => `(tactic| first | walk_at "pe" | walk_at "po" | walk_at "ps" | walk_at "pp" | (dsimp only [List.set]))
local macro_rules | `(tactic| walk_at "pz") => `(tactic| repeat (walk_at "p1"))
local macro_rules | `(tactic| walk_at "pd") => `(tactic| ((with_reducible show ite _ _ _); first | refine z_iteT' (by decide +kernel) ?_ | refine z_iteF' (by decide +kernel) ?_))
local macro_rules | `(tactic| walk_at "px") => `(tactic| repeat (first | walk_at "p1" | walk_at "pd"))
local macro_rules | `(tactic| walk_at "pr") => `(tactic| ((with_reducible show ite _ _ _); first | refine z_iteT' (by with_unfolding_all rfl) ?_ | refine z_iteF' (by with_unfolding_all rfl) ?_))
local macro_rules | `(tactic| walk_at "py") => `(tactic| repeat (first | walk_at "p1" | walk_at "pr"))

/-! ### own == by all fields -/
def seqD (v : Da) (l : List Da) : Prop := v = .lst l ∨ v = .tup l
abbrev prD (l : List (Da × Da)) : List Da := l.map fun z => .tup [z.1, z.2]
theorem prD_len {l : List (Da × Da)} : (prD l).length = l.length := List.length_map ..
theorem p_isqS {v : Da} {l : List Da} {P : List Da → Prop} (h : seqD v l) (k : P l) : ∃ m, (v = .lst m ∨ v = .tup m) ∧ P m := ⟨l, h, k⟩
theorem p_tupleS {v : Da} {l : List Da} {Q : Da → Prop} (h : seqD v l) (k : Q (.tup l)) : pTuple [v] Q := by rcases h with rfl | rfl <;> exact k
theorem p_listS {v : Da} {l : List Da} {Q : Da → Prop} (h : seqD v l) (k : Q (.lst l)) : pList [v] Q := by rcases h with rfl | rfl <;> exact k
theorem p_lenSq {v : Da} {l : List Da} {Q : Da → Prop} (h : seqD v l) (k : Q (.int l.length)) : pLen [v] Q := by rcases h with rfl | rfl <;> exact k
/-- what an own == may be asked: another one of the class, one of another class, or something else -/
def EqAsk (X : Str) (KS : List Str) (ok : List Da → List Da → Prop) (l : List Da) (e : Da) : Prop := l.length = KS.length ∧ ((∃ m, e = .ins X KS m ∧ m.length = KS.length ∧ ok l m) ∨ (∃ y ks m, e = .ins y ks m ∧ SUB y X = false) ∨ okTy e = true)
def psEqOf (X : Str) (KS : List Str) (ok : List Da → List Da → Prop) : PSp := fun ds Q _ => ∃ l e, ds = [.ins X KS l, e] ∧ EqAsk X KS ok l e ∧ Q (.bl (eqD (.ins X KS l) e))
theorem SUB_self (x : Str) : SUB x x = true := by unfold SUB; simp
theorem eqD_other {X Y : Str} {KS ks : List Str} {l m : List Da} (h : SUB Y X = false) : eqD (.ins X KS l) (.ins Y ks m) = false := by
  have : X ≠ Y := fun z => by subst z; rw [SUB_self] at h; cases h
  simp only [eqD, decide_eq_false this, Bool.false_and]
theorem eqD_else {X : Str} {KS : List Str} {l : List Da} {e : Da} (h : okTy e = true) : eqD (.ins X KS l) e = false := by
  cases e <;> first | (cases h; done) | (simp only [eqD, eq0])
theorem eqD_same {X : Str} {KS : List Str} {l m : List Da} (h : X ≠ "Record") : eqD (.ins X KS l) (.ins X KS m) = eqDs l m := by
  simp only [eqD, decide_true, Bool.true_and, if_neg h]
theorem eqD_sym0 {x y : Da} : eq0 x y = eq0 y x := by
  cases x <;> cases y <;> simp only [eq0] <;> first | rfl | (rw [Bool.eq_iff_iff, decide_eq_true_iff, decide_eq_true_iff]; exact eq_comm)
/-- isinstance(other, X) -/
theorem p_isAsk {X : Str} {KS : List Str} {ok : List Da → List Da → Prop} {l : List Da} {e : Da} {Q : Da → Prop} (h : EqAsk X KS ok l e) (k1 : ∀ m, e = .ins X KS m → m.length = KS.length → ok l m → Q (.bl true)) (k2 : eqD (.ins X KS l) e = false → Q (.bl false)) : isC1 X e Q := by
  rcases h.2 with ⟨m, rfl, hl, ho⟩ | ⟨y, ks, m, rfl, hs⟩ | ho
  · show Q (.bl (SUB X X)); rw [SUB_self]; exact k1 m rfl hl ho
  · show Q (.bl (SUB y X)); rw [hs]; exact k2 (eqD_other hs)
  · have z := k2 (eqD_else ho)
    cases e <;> first | (cases ho; done) | exact ⟨rfl, z⟩
theorem CqX.flat {tab : ETab} {n : Nat} {x y : Da} (h1 : flD x = true) (h2 : flD y = true) : CqX tab n x y := by
  cases n with
  | zero => exact ⟨h1, h2⟩
  | succ n => exact .inl ⟨h1, h2⟩
theorem CqX.tup {tab : ETab} {n : Nat} {a b : List Da} (h : ∀ (i : Nat) (u v : Da), a[i]? = some u → b[i]? = some v → CqX tab n u v) : CqX tab (n + 1) (.tup a) (.tup b) := .inr (.inl ⟨a, b, rfl, rfl, h⟩)
theorem CqX.lst {tab : ETab} {n : Nat} {a b : List Da} (h : ∀ (i : Nat) (u v : Da), a[i]? = some u → b[i]? = some v → CqX tab n u v) : CqX tab (n + 1) (.lst a) (.lst b) := .inr (.inr (.inl ⟨a, b, rfl, rfl, h⟩))
theorem CqX.ins {tab : ETab} {n : Nat} {X : Str} {KS : List Str} {ok : List Da → List Da → Prop} {l : List Da} {e : Da} (hm : (X, psEqOf X KS ok) ∈ tab) (h : EqAsk X KS ok l e) (hr : eqD (.ins X KS l) (.ins X KS l) = true) (ht : ∀ y ks m, e = .ins y ks m → y = X ∨ ∃ ps, (y, ps) ∈ tab) : CqX tab (n + 1) (.ins X KS l) e := by
  refine .inr (.inr (.inr ⟨X, KS, l, rfl, ⟨_, hm, l, e, rfl, h, rfl⟩, hr, ?_⟩))
  rcases h.2 with ⟨m, rfl, _, _⟩ | ⟨y, ks, m, rfl, hs⟩ | ho
  · exact .inl ⟨X, KS, m, rfl, .inl rfl⟩
  · exact .inl ⟨y, ks, m, rfl, (ht y ks m rfl).imp id fun z => ⟨z, hs⟩⟩
  · exact .inr ho

theorem p_filt {α : Type} {l : List α} {f g : α → Da} {pg : PTg} {c : PTe} {e : PEx} {us : List Nat} {ρ : PEnv} {QA : List Da → Prop} (P : α → Bool) (hn : l.length ≤ 90000) (hs : ∀ (i : Nat) (a : α) (k1 : Da → Prop) (k2 : Prop), l[i]? = some a → (P a = true → k1 (g a)) → (P a = false → k2) → pg (f a) (wipeP ρ us) fun ρ2 => c ρ2 fun b => if b = true then e ρ2 k1 else k2) (hd : QA ((l.filter P).map g)) : pComp (l.map f) pg c e us ρ QA := by
  refine ⟨by rw [List.length_map]; exact hn, fun i acc => acc = ((l.take i).filter P).map g, rfl, fun i x acc hx ha => ?_, fun acc ha => by rw [ha, List.length_map, List.take_length]; exact hd⟩
  rw [List.getElem?_map] at hx
  cases e' : l[i]? with
  | none => rw [e'] at hx; cases hx
  | some a =>
    rw [e'] at hx
    cases hx
    subst ha
    have tk : l.take (i + 1) = l.take i ++ [a] := by rw [List.take_add_one, e']; rfl
    refine hs i a _ _ e' (fun h => ?_) (fun h => ?_)
    · show _ = _
      rw [tk, List.filter_append, List.map_append, List.filter_cons_of_pos h]; rfl
    · show _ = _
      rw [tk, List.filter_append, List.map_append, List.filter_cons_of_neg (by rw [h]; exact Bool.false_ne_true)]; simp
theorem p_compS {α : Type} {l : List Da} {g : PTg} {e : PEx} {us : List Nat} {ρ : PEnv} {QA : List Da → Prop} (f : α → Da) (P : α → Prop) (hn : l.length ≤ 90000) (hs : ∀ (i : Nat) (x : Da) (k : Da → Prop), l[i]? = some x → (∀ a, P a → k (f a)) → g x (wipeP ρ us) fun ρ2 => e ρ2 k) (hd : ∀ as : List α, as.length = l.length → (∀ a ∈ as, P a) → QA (as.map f)) : pComp l g pYes e us ρ QA := by
  refine ⟨hn, fun i acc => ∃ as : List α, acc = as.map f ∧ as.length = i ∧ ∀ a ∈ as, P a, ⟨[], rfl, rfl, fun a h => by cases h⟩, fun i x acc hx ⟨as, ha, hl, hp⟩ => ?_, fun acc ⟨as, ha, hl, hp⟩ => by subst ha; exact hd as hl hp⟩
  have := hs i x (fun y => ∃ bs : List α, acc ++ [y] = bs.map f ∧ bs.length = i + 1 ∧ ∀ a ∈ bs, P a) hx (fun a h => ⟨as ++ [a], by rw [ha]; simp, by simp [hl], fun b hb => by
    rcases List.mem_append.mp hb with hb | hb
    · exact hp b hb
    · obtain rfl := List.mem_singleton.mp hb; exact h⟩)
  refine cast (congrArg (g x (wipeP ρ us)) ?_) this
  funext ρ2
  dsimp only [pYes]
  rw [if_pos rfl]

theorem p_istr {p : PEx} {ρ : PEnv} {Q : List Da → Prop} (k : p ρ fun d => ∃ x, d = .str x ∧ Q (strD x)) : piStr p ρ Q := k
theorem p_kst {P : Str → Prop} {x : Str} (k : P x) : ∃ z, Da.str x = .str z ∧ P z := ⟨x, rfl, k⟩
theorem p_ord {c : Nat} {Q : Da → Prop} (k : Q (.int (c : Nat))) : pOrd [.str ⟨#[c]⟩] Q := ⟨rfl, k⟩
theorem p_cstT {xs : List V} {ρ : PEnv} {Q : Da → Prop} (k : Q (.tup (xs.map vD))) : pCstT xs ρ Q := k
theorem getD_lt {α : Type} {l : List α} {i : Nat} (d : α) (h : i < l.length) : l[i]? = some (l.getD i d) := by rw [List.getD_eq_getElem?_getD, List.getElem?_eq_getElem h]; rfl

/-! != of an own instance (its class has no own __ne__) -/
def NTab (K : PySem.W.Frag) (c : CEnv) (tab : ETab) : Prop := ∀ z ∈ tab, PySem.W.findIn K (.ref (c.cls z.1)) "__ne__" = some (some (.builtin "object.__ne__"))
def NeAsk (tab : ETab) (d e : Da) : Prop := ∃ x ks a ps, d = .ins x ks a ∧ (x, ps) ∈ tab ∧ ps [d, e] (fun r => r = .bl (eqD d e)) (fun _ => False) ∧ ((∃ k2 ks2 b, e = .ins k2 ks2 b ∧ (k2 = x ∨ ((∃ ps2, (k2, ps2) ∈ tab) ∧ SUB k2 x = false))) ∨ okTy e = true)
def rNeX (K : PySem.W.Frag) (c : CEnv) (tab : ETab) : R2 := fun x y H Q => ∃ (S : Option (Addr × Addr)) (O : List Addr) (d e : Da), GoodH S O H ∧ Rp K c (S.map (·.1)) (hid H O) x d ∧ Rp K c (S.map (·.1)) (hid H O) y e ∧ NeAsk tab d e ∧ ∀ H', Ex S H H' → Q (.bl (!eqD d e)) H'
def uNeX (K : PySem.W.Frag) (c : CEnv) (tab : ETab) : R2 := fun x y H Q => uNe K x y H Q ∨ rNeX K c tab x y H Q
section
variable {X : Cx} {c : CEnv} {k : Nat} {tab : ETab}
theorem op_rNeX (T : ETabOk X c k tab) (NE : NTab X.K c tab) (hr : Room (k + 1) X.A) : OpR X (compareOp .NotEq) (rNeX X.K c tab) := by
  intro pins s σ H u v y z Q I rx ry hq
  obtain ⟨S, O, d, e, g, hx, hy, ⟨x, ks, a, ps, hd, hm, hp, ho⟩, q⟩ := hq
  subst hd
  obtain ⟨IF, ⟨gs, ok⟩, f, fd, pn, k', sp, hk, hM, hb, F, hs⟩ := T _ hm
  obtain ⟨p, dx, xs, rfl, ok', e1, hl, ra⟩ := rpO hx
  have t : RTy X.K c x H v := rty_of hy (ho.imp (fun ⟨k2, ks2, b, e, h⟩ => ⟨k2, ks2, b, e, h.imp id fun ⟨⟨ps2, m2⟩, h⟩ => by
    obtain ⟨_, ⟨g2, ok2⟩, _⟩ := T _ m2
    rw [ok2.sb x IF.has, h]⟩) id)
  cases rx
  obtain ⟨tb, LT, hn⟩ := looks_rty I IF ry t
  obtain ⟨mA, J, _⟩ := ins_get I.hok (hid_le _ _ e1)
  obtain ⟨od, J, _⟩ := J.look
  obtain ⟨m, hF⟩ := I.fr
  show wpAny (model X.prog X.w) X.A (richCompare .NotEq (.ref p) z) (EP X pins σ Q) X.xe s
  refine ZN.ne_K (tb := tb) (by have := hr.un; omega) hF I.ok.mod.kin J LT hn (NE _ hm) ok.hm hM.at_ hM.fn ?_
  have r2 : Vals [V.ref p, v] [Value.ref p, z] := .cons rfl (.cons ry .nil)
  have q2 : sp [.ref p, v] H (fun r H' => r = .bl (eqD (.ins x ks a) e) ∧ Ex S H H') E0 := hs S O H _ _ _ _ _ _ g.1 g.2 (.cons hx (.cons hy .nil)) hp (fun r d H' ex rr q => ⟨by subst q; exact rpB rr, ex⟩) (fun _ _ _ f => f.elim)
  refine wpAny_mono (run_at (A := X.A.in1) ⟨(hr.mono (Nat.succ_le_succ hk)).in1, rfl⟩ F hb I r2 q2) (fun w s' hw => ?_) fun _ _ e => e
  obtain ⟨zv, H', I', rz, ez, ex⟩ := hw
  subst ez
  cases rz
  exact ⟨_, rfl, .bl (!eqD (.ins x ks a) e), H', I', rfl, q H' ex⟩
theorem op_uNeX (T : ETabOk X c k tab) (NE : NTab X.K c tab) (hr : Room (k + 1) X.A) : OpR X (compareOp .NotEq) (uNeX X.K c tab) := (op_uNe hr.units).or (op_rNeX T NE hr)
end
def pNeX (tab : ETab) : PR2 := fun x y Q => pNe x y Q ∨ (NeAsk tab x y ∧ Q (.bl (!eqD x y)))
section
variable {N : Cn}
theorem sim_neX {tab : ETab} : SimR N (uNeX N.K N.c tab) (pNeX tab) := by
  intro w H0 B ow H σ ρ x y dx dy Q Q' r hx hy h k
  rcases h with h | ⟨h, q⟩
  · exact .inl (sim_ne w H0 B ow H σ ρ x y dx dy Q Q' r hx hy h k)
  · exact .inr ⟨w.S, hl w ow, dx, dy, ⟨r.occ, fun st L e => ⟨(r.dr st L e).1, r.stO st L e⟩⟩, hx, hy, h, fun H' ex => k _ _ H' (r.ex ex) ex (.bl _) q⟩
end
theorem p_neX {tab : ETab} {X : Str} {KS : List Str} {ok : List Da → List Da → Prop} {l : List Da} {e : Da} {Q : Da → Prop} (hm : (X, psEqOf X KS ok) ∈ tab) (h : EqAsk X KS ok l e) (ht : ∀ y ks m, e = .ins y ks m → y = X ∨ ∃ ps, (y, ps) ∈ tab) (k : Q (.bl (!eqD (.ins X KS l) e))) : pNeX tab (.ins X KS l) e Q := by
  refine .inr ⟨⟨X, KS, l, _, rfl, hm, ⟨l, e, rfl, h, rfl⟩, ?_⟩, k⟩
  rcases h.2 with ⟨m, rfl, _, _⟩ | ⟨y, ks, m, rfl, hs⟩ | ho
  · exact .inl ⟨X, KS, m, rfl, .inl rfl⟩
  · exact .inl ⟨y, ks, m, rfl, (ht y ks m rfl).imp id fun z => ⟨z, hs⟩⟩
  · exact .inr ho
/-! constant dicts: not in -/
def pKout (l : List (Str × DV)) (a : PEx) : PEx := fun ρ Q => a ρ fun x => ∃ z, x = .str z ∧ Q (.bl (!(l.lookup z).isSome))
def pKin (l : List (Str × DV)) (a : PEx) : PEx := fun ρ Q => a ρ fun x => ∃ z, x = .str z ∧ Q (.bl (l.lookup z).isSome)
theorem sim_kout {N : Cn} {l : List (Str × DV)} {a : TE} {p : PEx} (h : SimE N a p) : SimE N (tKout l a) (pKout l p) := by
  intro w H0 B aw ow H σ ρ Q Q' r q k
  refine h w H0 B aw ow H σ ρ _ _ r q fun x dx H1 r1 s1 h1 ⟨z, e, q1⟩ => ?_
  subst e
  cases h1
  exact ⟨z, rfl, k _ _ H1 r1 s1 (.bl _) q1⟩
theorem sim_kin {N : Cn} {l : List (Str × DV)} {a : TE} {p : PEx} (h : SimE N a p) : SimE N (tKin l a) (pKin l p) := by
  intro w H0 B aw ow H σ ρ Q Q' r q k
  refine h w H0 B aw ow H σ ρ _ _ r q fun x dx H1 r1 s1 h1 ⟨z, e, q1⟩ => ?_
  subst e
  cases h1
  exact ⟨z, rfl, k _ _ H1 r1 s1 (.bl _) q1⟩
theorem p_kout {l : List (Str × DV)} {a : PEx} {ρ : PEnv} {Q : Da → Prop} (k : a ρ fun x => ∃ z, x = .str z ∧ Q (.bl (!(l.lookup z).isSome))) : pKout l a ρ Q := k
theorem p_kin {l : List (Str × DV)} {a : PEx} {ρ : PEnv} {Q : Da → Prop} (k : a ρ fun x => ∃ z, x = .str z ∧ Q (.bl (l.lookup z).isSome)) : pKin l a ρ Q := k

/-! zip of two or three lists and tuples in any mix -/
/-- a list (false) or a tuple (true) -/
def SqK (K : PySem.W.Frag) (k : Bool) (H : Hp) (a : Addr) (xs : List V) : Prop := if k then SqT K H a xs else SqL K H a xs
def itK (k : Bool) (h : Heap) (i a : Addr) (n : Nat) : Prop := if k then h.IsTupleIter i a n else h.IsListIter i a n
def hasK (k : Bool) (h : Heap) (a : Addr) (items : Array Value) : Prop := if k then h.IsTuple a items else h.IsList a items
def objK (k : Bool) (a : Addr) : Obj := if k then { cls := .type "tuple_iterator", data := .fields #[.ref a, .int 0 0] } else { cls := .type "list_iterator", data := .fields #[.ref a, .int 0 0] }
theorem begins_K (k : Bool) (a : Addr) (items : Array Value) : Begins (.ref a) (objK k a) fun h => hasK k h a items := by
  cases k
  · exact begins_list a items
  · exact begins_tuple a items
theorem draws_K {prog : Program} {w : World} {A : Around} (hh : A.handled = none) (k : Bool) (it l : Addr) (hne : l ≠ it) (items : Array Value) : Draws prog w A it [it, l] items.size (fun i v => items[i]? = some v) (fun i h => itK k h it l i ∧ hasK k h l items) := by
  cases k
  · exact Draws.list hh it l hne items
  · exact Draws.tuple hh it l hne items
theorem has_of {X : Cx} {pins : List (Addr × Obj)} {σ : L2.St} {H : Hp} {s : Shared} (I : Inv X pins σ H s) (k : Bool) {a : Addr} {xs : List V} (e : SqK X.K k H a xs) : ∃ its, Vals xs its ∧ hasK k s.heap a its.toArray ∧ a < s.heap.objs.size := by
  cases k
  · obtain ⟨its, rv, p, _⟩ := I.list e
    exact ⟨its, rv, p.isList, p.lt⟩
  · obtain ⟨its, rv, p, _⟩ := I.tuple e
    have p' : s.heap.IsTuple a its.toArray := p
    obtain ⟨o, ho, _⟩ := id p'
    exact ⟨its, rv, p', Heap.lt_size ho⟩
theorem inj_K {X : Cx} {pins : List (Addr × Obj)} {σ : L2.St} {H : Hp} {s : Shared} (I : Inv X pins σ H s) (k : Bool) {a : Addr} {xs ys : List V} (e : SqK X.K k H a xs) (e2 : SqK X.K k H a ys) : xs = ys := by
  cases k
  · exact I.list_inj e e2
  · exact I.tuple_inj e e2
theorem itK.obj {k : Bool} {h : Heap} {i a : Addr} {n : Nat} (e : itK k h i a n) : ∃ o, h.get? i = some o ∧ ∀ v, o.data ≠ .cell v := by
  cases k
  all_goals
    obtain ⟨o, ho, _, hd⟩ := e
    exact ⟨o, ho, fun v q => by rw [hd] at q; cases q⟩
theorem itK.at {k : Bool} {h h' : Heap} {i a : Addr} {n : Nat} (e : itK k h i a n) (q : ∀ o, h.get? i = some o → h'.get? i = some o) : itK k h' i a n := by
  cases k
  all_goals
    obtain ⟨o, ho, hc, hd⟩ := e
    exact ⟨o, q o ho, hc, hd⟩
theorem itK.of {k : Bool} {h : Heap} {i a : Addr} (e : h.get? i = some (objK k a)) : itK k h i a 0 := by
  cases k
  · exact ⟨_, e, rfl, rfl⟩
  · exact ⟨_, e, rfl, rfl⟩
/-- the sequences as they stand at each turn, the items in new tuples -/
def Itz2 (K : PySem.W.Frag) (k1 k2 : Bool) (a b : Addr) : It :=
  ⟨fun i H => ∃ (xs ys : List V) (x y : V), SqK K k1 H a xs ∧ SqK K k2 H b ys ∧ xs[i]? = some x ∧ ys[i]? = some y,
    fun i H v H' => ∃ T x y, v = .ref T ∧ H T = none ∧ H' = upd H T (.tup [x, y]) ∧ (∀ xs, SqK K k1 H a xs → xs[i]? = some x) ∧ ∀ ys, SqK K k2 H b ys → ys[i]? = some y,
    fun i H => ∃ xs ys : List V, SqK K k1 H a xs ∧ SqK K k2 H b ys ∧ i = min xs.length ys.length⟩
def Itz3 (K : PySem.W.Frag) (k1 k2 k3 : Bool) (a b c : Addr) : It :=
  ⟨fun i H => ∃ (xs ys zs : List V) (x y z : V), SqK K k1 H a xs ∧ SqK K k2 H b ys ∧ SqK K k3 H c zs ∧ xs[i]? = some x ∧ ys[i]? = some y ∧ zs[i]? = some z,
    fun i H v H' => ∃ T x y z, v = .ref T ∧ H T = none ∧ H' = upd H T (.tup [x, y, z]) ∧ (∀ xs, SqK K k1 H a xs → xs[i]? = some x) ∧ (∀ ys, SqK K k2 H b ys → ys[i]? = some y) ∧ ∀ zs, SqK K k3 H c zs → zs[i]? = some z,
    fun i H => ∃ xs ys zs : List V, SqK K k1 H a xs ∧ SqK K k2 H b ys ∧ SqK K k3 H c zs ∧ i = min (min xs.length ys.length) zs.length⟩
theorem sub5 {α : Type} {a b c d e x : α} (h : x ∈ [a, c, d, e]) : x ∈ [a, b, c, d, e] := by
  simp only [List.mem_cons, List.not_mem_nil, or_false] at h ⊢
  rcases h with z | z | z | z <;> simp [z]
theorem sub6 {α : Type} {a b c d e f x : α} (h : x ∈ [a, c, d, e, f]) : x ∈ [a, b, c, d, e, f] := by
  simp only [List.mem_cons, List.not_mem_nil, or_false] at h ⊢
  rcases h with z | z | z | z | z <;> simp [z]
theorem mem_sz {h : Heap} {b : Addr} {o : Obj} (e : h.get? b = some o) : b < h.objs.size := Heap.lt_size e
theorem turn_z2 {P : Program} {w : World} {K : PySem.W.Frag} {elts : List Expr} {kk : Nat} {tpos : Pos} {k1 k2 : Bool} {a b : Addr} {N : Nat} (ha : a < N) (hb : b < N) :
    Turn P w K (.Tuple elts kk tpos) (Itz2 K k1 k2 a b) [N + 4, N + 2, N + 3, N, N + 1] (N + 4) (fun i h => IsZip h (N + 4) (N + 2) (N + 3) .none ∧ IsTupOf2 h (N + 2) (.ref N) (.ref (N + 1)) ∧ (∃ x y, IsTupOf2 h (N + 3) x y) ∧ itK k1 h N a i ∧ itK k2 h (N + 1) b i) where
  mem := by simp
  obj := fun i h st c hc => by
    obtain ⟨hz, hTI, ⟨x, y, hTO⟩, h1, h2⟩ := st
    have e' : c = N + 4 ∨ c = N + 2 ∨ c = N + 3 ∨ c = N ∨ c = N + 1 := by simpa using hc
    rcases e' with q | q | q | q | q
    · rw [q]; exact ⟨_, hz, fun v q => nomatch q⟩
    · rw [q]; exact ⟨_, hTI, fun v q => nomatch q⟩
    · rw [q]; exact ⟨_, hTO, fun v q => nomatch q⟩
    · rw [q]; exact h1.obj
    · rw [q]; exact h2.obj
  keep := fun i h h' st k => by
    obtain ⟨hz, hTI, ⟨x, y, hTO⟩, h1, h2⟩ := st
    exact ⟨k _ (by simp) _ hz, k _ (by simp) _ hTI, ⟨x, y, k _ (by simp) _ hTO⟩, h1.at fun o q => k _ (by simp) o q, h2.at fun o q => k _ (by simp) o q⟩
  item := by
    intro X hP hw hK hc i pins s σ H E I hf st hg
    subst hP hw hK
    obtain ⟨hz, hTI, hTO, h1, h2⟩ := st
    obtain ⟨xs, ys, x, y, hqx, hqy, hx, hy⟩ := hg
    obtain ⟨its, rv, p, _⟩ := has_of I k1 hqx
    obtain ⟨its2, rv2, p2, _⟩ := has_of I k2 hqy
    obtain ⟨u, hu, ru⟩ := rv.get hx
    obtain ⟨u2, hu2, ru2⟩ := rv2.get hy
    have hh : X.A.in1.handled = none := I.ok.hd hc
    have G := GoesN.zip2 (prog := X.prog) (w := X.w) (A := X.A) (elts := elts) (x1 := kk) (pos := tpos) (zip_sep2 (N := N) (fp1 := [a]) (fp2 := [b]) (by simpa using ha) (by simpa using hb)) (draws_K hh k1 N a (Nat.ne_of_lt ha) its.toArray) (draws_K hh k2 (N + 1) b (Nat.ne_of_lt (Nat.lt_succ_of_lt hb)) its2.toArray)
    have l1 : i < its.length := (List.getElem?_eq_some_iff.mp hu).1
    have l2 : i < its2.length := (List.getElem?_eq_some_iff.mp hu2).1
    refine G.goes i s _ E (by simp; omega) ⟨hz, hTI, hTO, ⟨h1, p⟩, ⟨h2, p2⟩⟩ fun v h' tk hY st' hk htk => ?_
    obtain ⟨T, x1, y1, rfl, hn, ex, ey, hT⟩ := hY
    obtain ⟨hz', hTI', hTO', ⟨h1', _⟩, ⟨h2', _⟩⟩ := st'
    have ex : x1 = u := by have : its.toArray[i]? = some x1 := ex; rw [List.getElem?_toArray, hu] at this; exact (Option.some.inj this).symm
    have ey : y1 = u2 := by have : its2.toArray[i]? = some y1 := ey; rw [List.getElem?_toArray, hu2] at this; exact (Option.some.inj this).symm
    subst ex ey
    obtain ⟨oT, hoT, hcT, nT, hdT⟩ := hT
    have new : ObjOk X.prog X.w (upd H T (.tup [x, y])) h' T (.tup [x, y]) := ⟨by show 2 ≤ sizeLine; decide, [x1, y1], .cons ru (.cons ru2 .nil), ⟨oT, hoT, hcT, nT, hdT⟩⟩
    have I1 : Inv X pins σ (upd H T (.tup [x, y])) { s with heap := h', toks := tk } :=
      I.turnedNew (t' := tk) (ch := [N + 4, N + 2, N + 3, N, N + 1]) (fun c o hb q => hk c o (fun q' => hb (sub5 q')) q) hf hn new
    refine ⟨.ref T, _, I1, rfl, ⟨T, x, y, rfl, I.hok.fresh hn, rfl, fun l hl => by rw [inj_K I k1 hl hqx]; exact hx, fun l hl => by rw [inj_K I k2 hl hqy]; exact hy⟩, ⟨hz', hTI', hTO', h1', h2'⟩, fun c hcm => ?_⟩
    have hlt : c < s.heap.objs.size := by
      have e' : c = N + 4 ∨ c = N + 2 ∨ c = N + 3 ∨ c = N ∨ c = N + 1 := by simpa using hcm
      obtain ⟨_, _, hTO⟩ := hTO
      have := mem_sz hz
      have := mem_sz hTI
      have := mem_sz hTO
      obtain ⟨_, q1, _⟩ := h1.obj
      obtain ⟨_, q2, _⟩ := h2.obj
      have := mem_sz q1
      have := mem_sz q2
      rcases e' with q | q | q | q | q <;> rw [q] <;> assumption
    rw [upd_ne (Nat.ne_of_lt (Nat.lt_of_lt_of_le hlt hn))]
    exact (hf c hcm).1
  done := by
    intro X hP hw hK hc i pins s σ H E I hf st hg
    subst hP hw hK
    obtain ⟨hz, hTI, hTO, h1, h2⟩ := st
    obtain ⟨xs, ys, hqx, hqy, hend⟩ := hg
    obtain ⟨its, rv, p, _⟩ := has_of I k1 hqx
    obtain ⟨its2, rv2, p2, _⟩ := has_of I k2 hqy
    have hh : X.A.in1.handled = none := I.ok.hd hc
    have G := GoesN.zip2 (prog := X.prog) (w := X.w) (A := X.A) (elts := elts) (x1 := kk) (pos := tpos) (zip_sep2 (N := N) (fp1 := [a]) (fp2 := [b]) (by simpa using ha) (by simpa using hb)) (draws_K hh k1 N a (Nat.ne_of_lt ha) its.toArray) (draws_K hh k2 (N + 1) b (Nat.ne_of_lt (Nat.lt_succ_of_lt hb)) its2.toArray)
    have e : i = min its.toArray.size its2.toArray.size := by rw [hend, rv.length, rv2.length]; simp
    rw [e] at h1 h2
    exact G.stops s _ E ⟨hz, hTI, hTO, ⟨h1, p⟩, ⟨h2, p2⟩⟩ fun h' tk hk htk => I.turnedL (t' := tk) (ch := [N + 4, N + 2, N + 3, N, N + 1]) (fun c o hb q => hk c o (fun q' => hb (sub5 q')) q) hf
  self := fun A i s Q E st h => wpAny_pyIter_zip st.1 h
theorem turn_z3 {P : Program} {w : World} {K : PySem.W.Frag} {elts : List Expr} {kk : Nat} {tpos : Pos} {k1 k2 k3 : Bool} {a b c : Addr} {N : Nat} (ha : a < N) (hb : b < N) (hc' : c < N) :
    Turn P w K (.Tuple elts kk tpos) (Itz3 K k1 k2 k3 a b c) [N + 5, N + 3, N + 4, N, N + 1, N + 2] (N + 5) (fun i h => IsZip h (N + 5) (N + 3) (N + 4) .none ∧ IsTupOf3 h (N + 3) (.ref N) (.ref (N + 1)) (.ref (N + 2)) ∧ (∃ x y z, IsTupOf3 h (N + 4) x y z) ∧ itK k1 h N a i ∧ itK k2 h (N + 1) b i ∧ itK k3 h (N + 2) c i) where
  mem := by simp
  obj := fun i h st c hc => by
    obtain ⟨hz, hTI, ⟨x, y, z, hTO⟩, h1, h2, h3⟩ := st
    have e' : c = N + 5 ∨ c = N + 3 ∨ c = N + 4 ∨ c = N ∨ c = N + 1 ∨ c = N + 2 := by simpa using hc
    rcases e' with q | q | q | q | q | q
    · rw [q]; exact ⟨_, hz, fun v q => nomatch q⟩
    · rw [q]; exact ⟨_, hTI, fun v q => nomatch q⟩
    · rw [q]; exact ⟨_, hTO, fun v q => nomatch q⟩
    · rw [q]; exact h1.obj
    · rw [q]; exact h2.obj
    · rw [q]; exact h3.obj
  keep := fun i h h' st k => by
    obtain ⟨hz, hTI, ⟨x, y, z, hTO⟩, h1, h2, h3⟩ := st
    exact ⟨k _ (by simp) _ hz, k _ (by simp) _ hTI, ⟨x, y, z, k _ (by simp) _ hTO⟩, h1.at fun o q => k _ (by simp) o q, h2.at fun o q => k _ (by simp) o q, h3.at fun o q => k _ (by simp) o q⟩
  item := by
    intro X hP hw hK hc i pins s σ H E I hf st hg
    subst hP hw hK
    obtain ⟨hz, hTI, hTO, h1, h2, h3⟩ := st
    obtain ⟨xs, ys, zs, x, y, z, hqx, hqy, hqz, hx, hy, hzz⟩ := hg
    obtain ⟨its, rv, p, _⟩ := has_of I k1 hqx
    obtain ⟨its2, rv2, p2, _⟩ := has_of I k2 hqy
    obtain ⟨its3, rv3, p3, _⟩ := has_of I k3 hqz
    obtain ⟨u, hu, ru⟩ := rv.get hx
    obtain ⟨u2, hu2, ru2⟩ := rv2.get hy
    obtain ⟨u3, hu3, ru3⟩ := rv3.get hzz
    have hh : X.A.in1.handled = none := I.ok.hd hc
    have G := GoesN.zip3 (prog := X.prog) (w := X.w) (A := X.A) (elts := elts) (x1 := kk) (pos := tpos) (zip_sep3 (N := N) (fp1 := [a]) (fp2 := [b]) (fp3 := [c]) (by simpa using ha) (by simpa using hb) (by simpa using hc')) (draws_K hh k1 N a (Nat.ne_of_lt ha) its.toArray) (draws_K hh k2 (N + 1) b (Nat.ne_of_lt (Nat.lt_succ_of_lt hb)) its2.toArray) (draws_K hh k3 (N + 2) c (Nat.ne_of_lt (Nat.lt_succ_of_lt (Nat.lt_succ_of_lt hc'))) its3.toArray)
    have l1 : i < its.length := (List.getElem?_eq_some_iff.mp hu).1
    have l2 : i < its2.length := (List.getElem?_eq_some_iff.mp hu2).1
    have l3 : i < its3.length := (List.getElem?_eq_some_iff.mp hu3).1
    refine G.goes i s _ E (by simp; omega) ⟨hz, hTI, hTO, ⟨h1, p⟩, ⟨h2, p2⟩, ⟨h3, p3⟩⟩ fun v h' tk hY st' hk htk => ?_
    obtain ⟨T, x1, y1, z1, rfl, hn, ex, ey, ez, hT⟩ := hY
    obtain ⟨hz', hTI', hTO', ⟨h1', _⟩, ⟨h2', _⟩, ⟨h3', _⟩⟩ := st'
    have ex : x1 = u := by have : its.toArray[i]? = some x1 := ex; rw [List.getElem?_toArray, hu] at this; exact (Option.some.inj this).symm
    have ey : y1 = u2 := by have : its2.toArray[i]? = some y1 := ey; rw [List.getElem?_toArray, hu2] at this; exact (Option.some.inj this).symm
    have ez : z1 = u3 := by have : its3.toArray[i]? = some z1 := ez; rw [List.getElem?_toArray, hu3] at this; exact (Option.some.inj this).symm
    subst ex ey ez
    obtain ⟨oT, hoT, hcT, nT, hdT⟩ := hT
    have new : ObjOk X.prog X.w (upd H T (.tup [x, y, z])) h' T (.tup [x, y, z]) := ⟨by show 3 ≤ sizeLine; decide, [x1, y1, z1], .cons ru (.cons ru2 (.cons ru3 .nil)), ⟨oT, hoT, hcT, nT, hdT⟩⟩
    have I1 : Inv X pins σ (upd H T (.tup [x, y, z])) { s with heap := h', toks := tk } :=
      I.turnedNew (t' := tk) (ch := [N + 5, N + 3, N + 4, N, N + 1, N + 2]) (fun c o hb q => hk c o (fun q' => hb (sub6 q')) q) hf hn new
    refine ⟨.ref T, _, I1, rfl, ⟨T, x, y, z, rfl, I.hok.fresh hn, rfl, fun l hl => by rw [inj_K I k1 hl hqx]; exact hx, fun l hl => by rw [inj_K I k2 hl hqy]; exact hy, fun l hl => by rw [inj_K I k3 hl hqz]; exact hzz⟩, ⟨hz', hTI', hTO', h1', h2', h3'⟩, fun c hcm => ?_⟩
    have hlt : c < s.heap.objs.size := by
      have e' : c = N + 5 ∨ c = N + 3 ∨ c = N + 4 ∨ c = N ∨ c = N + 1 ∨ c = N + 2 := by simpa using hcm
      obtain ⟨_, _, _, hTO⟩ := hTO
      have := mem_sz hz
      have := mem_sz hTI
      have := mem_sz hTO
      obtain ⟨_, q1, _⟩ := h1.obj
      obtain ⟨_, q2, _⟩ := h2.obj
      obtain ⟨_, q3, _⟩ := h3.obj
      have := mem_sz q1
      have := mem_sz q2
      have := mem_sz q3
      rcases e' with q | q | q | q | q | q <;> rw [q] <;> assumption
    rw [upd_ne (Nat.ne_of_lt (Nat.lt_of_lt_of_le hlt hn))]
    exact (hf c hcm).1
  done := by
    intro X hP hw hK hc i pins s σ H E I hf st hg
    subst hP hw hK
    obtain ⟨hz, hTI, hTO, h1, h2, h3⟩ := st
    obtain ⟨xs, ys, zs, hqx, hqy, hqz, hend⟩ := hg
    obtain ⟨its, rv, p, _⟩ := has_of I k1 hqx
    obtain ⟨its2, rv2, p2, _⟩ := has_of I k2 hqy
    obtain ⟨its3, rv3, p3, _⟩ := has_of I k3 hqz
    have hh : X.A.in1.handled = none := I.ok.hd hc
    have G := GoesN.zip3 (prog := X.prog) (w := X.w) (A := X.A) (elts := elts) (x1 := kk) (pos := tpos) (zip_sep3 (N := N) (fp1 := [a]) (fp2 := [b]) (fp3 := [c]) (by simpa using ha) (by simpa using hb) (by simpa using hc')) (draws_K hh k1 N a (Nat.ne_of_lt ha) its.toArray) (draws_K hh k2 (N + 1) b (Nat.ne_of_lt (Nat.lt_succ_of_lt hb)) its2.toArray) (draws_K hh k3 (N + 2) c (Nat.ne_of_lt (Nat.lt_succ_of_lt (Nat.lt_succ_of_lt hc'))) its3.toArray)
    have e : i = min (min its.toArray.size its2.toArray.size) its3.toArray.size := by rw [hend, rv.length, rv2.length, rv3.length]; simp
    rw [e] at h1 h2 h3
    exact G.stops s _ E ⟨hz, hTI, hTO, ⟨h1, p⟩, ⟨h2, p2⟩, ⟨h3, p3⟩⟩ fun h' tk hk htk => I.turnedL (t' := tk) (ch := [N + 5, N + 3, N + 4, N, N + 1, N + 2]) (fun c o hb q => hk c o (fun q' => hb (sub6 q')) q) hf
  self := fun A i s Q E st h => wpAny_pyIter_zip st.1 h
def iZip2 (K : PySem.W.Frag) (ta : TA) : TI := fun σ H R => ta σ H fun vs H1 => ∃ a b k1 k2 xs ys, vs = [.ref a, .ref b] ∧ SqK K k1 H1 a xs ∧ SqK K k2 H1 b ys ∧ R (Itz2 K k1 k2 a b) H1
def iZip3 (K : PySem.W.Frag) (ta : TA) : TI := fun σ H R => ta σ H fun vs H1 => ∃ a b c k1 k2 k3 xs ys zs, vs = [.ref a, .ref b, .ref c] ∧ SqK K k1 H1 a xs ∧ SqK K k2 H1 b ys ∧ SqK K k3 H1 c zs ∧ R (Itz3 K k1 k2 k3 a b c) H1
section
variable {X : Cx} {e e2 e3 : Expr} {ta : TA} {p pos tpos : Pos} {elts : List Expr} {kk : Nat}
theorem pi_zip2 (hg : Gl X "zip") (hm : X.mg "zip" = none) (ha : PA X [e, e2] ta)
    (hs : starEach [e, e2] X.env = (false, eval e X.env) :: starEach [e2] X.env := by rfl) (hpl : (backTo pos (starEach [e2] X.env)).any (·.1) = false := by rfl) :
    PI X (.Tuple elts kk tpos) (.Call (.Name "zip" p) [e, e2] [] pos) (iZip2 X.K ta) := by
  refine ⟨fun pins s σ H R I h => ?_⟩
  refine PyProof.Rows.Call_ (ld_blt I hg hm PyProof.Rows.boot_zip (PyProof.Rows.callWith_type1 (thn (ha.run pos pins s σ H _ I h) fun us s1 ⟨vs, H1, I1, r1, q1⟩ => ?_) hs hpl))
  obtain ⟨a, b, k1, k2, xs, ys, ex, hqx, hqy, q⟩ := q1
  subst ex
  cases r1 with
  | cons r rr =>
    cases rr with
    | cons r' rr =>
      cases rr
      cases r
      cases r'
      obtain ⟨its, rv, p1, la⟩ := has_of I1 k1 hqx
      obtain ⟨its2, rv2, p2, lb⟩ := has_of I1 k2 hqy
      refine zip_begins2 (begins_K k1 a its.toArray) (begins_K k2 b its2.toArray) p1 p2 fun h' hz hTI hTO h1 h2 hsz hk => wpAny_pyIter_zip hz ?_
      have I2 : Inv X pins σ H1 { s1 with heap := h' } := I1.kept (t' := s1.toks) hk
      refine ⟨s1.heap.objs.size + 4, [s1.heap.objs.size + 4, s1.heap.objs.size + 2, s1.heap.objs.size + 3, s1.heap.objs.size, s1.heap.objs.size + 1], _, _, H1, rfl, I2, turn_z2 la lb, ⟨hz, hTI, ⟨_, _, hTO⟩, .of h1, .of h2⟩, fun c hcm => ?_, q⟩
      have hle : s1.heap.objs.size ≤ c := by
        have e' : c = s1.heap.objs.size + 4 ∨ c = s1.heap.objs.size + 2 ∨ c = s1.heap.objs.size + 3 ∨ c = s1.heap.objs.size ∨ c = s1.heap.objs.size + 1 := by simpa using hcm
        rcases e' with z | z | z | z | z <;> rw [z] <;> first | exact Nat.le_refl _ | exact Nat.le_add_right _ _
      exact I1.fpOk hle (I1.hok.fresh hle)
theorem pi_zip3 (hg : Gl X "zip") (hm : X.mg "zip" = none) (ha : PA X [e, e2, e3] ta)
    (hs : starEach [e, e2, e3] X.env = (false, eval e X.env) :: starEach [e2, e3] X.env := by rfl) (hpl : (backTo pos (starEach [e2, e3] X.env)).any (·.1) = false := by rfl) :
    PI X (.Tuple elts kk tpos) (.Call (.Name "zip" p) [e, e2, e3] [] pos) (iZip3 X.K ta) := by
  refine ⟨fun pins s σ H R I h => ?_⟩
  refine PyProof.Rows.Call_ (ld_blt I hg hm PyProof.Rows.boot_zip (PyProof.Rows.callWith_type1 (thn (ha.run pos pins s σ H _ I h) fun us s1 ⟨vs, H1, I1, r1, q1⟩ => ?_) hs hpl))
  obtain ⟨a, b, c, k1, k2, k3, xs, ys, zs, ex, hqx, hqy, hqz, q⟩ := q1
  subst ex
  cases r1 with
  | cons r rr =>
    cases rr with
    | cons r' rr =>
      cases rr with
      | cons r'' rr =>
        cases rr
        cases r
        cases r'
        cases r''
        obtain ⟨its, rv, p1, la⟩ := has_of I1 k1 hqx
        obtain ⟨its2, rv2, p2, lb⟩ := has_of I1 k2 hqy
        obtain ⟨its3, rv3, p3, lc⟩ := has_of I1 k3 hqz
        refine zip_begins3 (begins_K k1 a its.toArray) (begins_K k2 b its2.toArray) (begins_K k3 c its3.toArray) p1 p2 p3 fun h' hz hTI hTO h1 h2 h3 hsz hk => wpAny_pyIter_zip hz ?_
        have I2 : Inv X pins σ H1 { s1 with heap := h' } := I1.kept (t' := s1.toks) hk
        refine ⟨s1.heap.objs.size + 5, [s1.heap.objs.size + 5, s1.heap.objs.size + 3, s1.heap.objs.size + 4, s1.heap.objs.size, s1.heap.objs.size + 1, s1.heap.objs.size + 2], _, _, H1, rfl, I2, turn_z3 la lb lc, ⟨hz, hTI, ⟨_, _, _, hTO⟩, .of h1, .of h2, .of h3⟩, fun c hcm => ?_, q⟩
        have hle : s1.heap.objs.size ≤ c := by
          have e' : c = s1.heap.objs.size + 5 ∨ c = s1.heap.objs.size + 3 ∨ c = s1.heap.objs.size + 4 ∨ c = s1.heap.objs.size ∨ c = s1.heap.objs.size + 1 ∨ c = s1.heap.objs.size + 2 := by simpa using hcm
          rcases e' with z | z | z | z | z | z <;> rw [z] <;> first | exact Nat.le_refl _ | exact Nat.le_add_right _ _
        exact I1.fpOk hle (I1.hok.fresh hle)
end

/-! ### one of several readings; what is never reached; zip in any mix -/
abbrev iD (xs : List Int) : List Da := xs.map Da.int
theorem takeS {α : Type} {l : List α} {i : Nat} {a : α} (h : l[i]? = some a) : l.take (i + 1) = l.take i ++ [a] := by rw [List.take_add_one, h]; rfl
theorem mapD_get {α : Type} {l : List α} {f : α → Da} {i : Nat} {x : Da} (h : (l.map f)[i]? = some x) : ∃ a, l[i]? = some a ∧ x = f a := by
  rw [List.getElem?_map] at h
  cases e : l[i]? with
  | none => rw [e] at h; cases h
  | some a => rw [e] at h; cases h; exact ⟨a, rfl, rfl⟩
def tAny (a b : TE) : TE := fun σ H Q => a σ H Q ∨ b σ H Q
theorem pe_any {X : Cx} {e : Expr} {a b : TE} (ha : PE X e a) (hb : PE X e b) : PE X e (tAny a b) := ⟨fun pins s σ H Q I q => q.elim (fun q => ha.run pins s σ H Q I q) fun q => hb.run pins s σ H Q I q⟩
def tNeverE : TE := fun _ _ _ => False
theorem pe_neverE {X : Cx} {e : Expr} : PE X e tNeverE := ⟨fun _ _ _ _ _ _ f => f.elim⟩
def pAny (a b : PEx) : PEx := fun ρ Q => a ρ Q ∨ b ρ Q
def pNeverE : PEx := fun _ _ => False
def pNever : PSt := fun _ _ => False
section
variable {N : Cn}
theorem sim_any {t u : TE} {p q : PEx} (h : SimE N t p) (h2 : SimE N u q) : SimE N (tAny t u) (pAny p q) := fun w H0 B aw ow H σ ρ Q Q' r z k => z.elim (fun z => .inl (h w H0 B aw ow H σ ρ Q Q' r z k)) fun z => .inr (h2 w H0 B aw ow H σ ρ Q Q' r z k)
theorem sim_neverE : SimE N tNeverE pNeverE := fun w H0 B aw ow H σ ρ Q Q' r z k => z.elim
theorem sim_never : SimS N tNever pNever := fun w H0 B aw ow H σ ρ D D' a r z => z.elim
end
theorem p_anyL {a b : PEx} {ρ : PEnv} {Q : Da → Prop} (h : a ρ Q) : pAny a b ρ Q := .inl h
theorem p_anyR {a b : PEx} {ρ : PEnv} {Q : Da → Prop} (h : b ρ Q) : pAny a b ρ Q := .inr h
theorem seqL {l : List Da} : seqD (.lst l) l := .inl rfl
theorem seqT {l : List Da} : seqD (.tup l) l := .inr rfl
theorem eqDs_rf {l : List Da} (h : l.all flD = true) : eqDs l l = true := eqDs_refl fun d hd => by
  have f := List.all_eq_true.mp h d hd
  cases d <;> first | (cases f; done) | (simp only [eqD, eq0]; try simp)
theorem p_neSame {l : List Da} {Q : Da → Prop} (h : l.all flD = true) (k : Q (.bl false)) : pNe (.lst l) (.lst l) Q := ⟨1, by decide, Cq.lst (Cq.flats h h), by rw [show eqD (.lst l) (.lst l) = true by simp only [eqD]; exact eqDs_rf h]; exact k⟩
def piZip2 (p : PAr) : PIt := fun ρ Q => p ρ fun ds => ∃ x y a b, ds = [x, y] ∧ seqD x a ∧ seqD y b ∧ Q (zipD a b)
def zip3D (a b c : List Da) : List Da := (a.zip (b.zip c)).map fun z => .tup [z.1, z.2.1, z.2.2]
def piZip3 (p : PAr) : PIt := fun ρ Q => p ρ fun ds => ∃ x y z a b c, ds = [x, y, z] ∧ seqD x a ∧ seqD y b ∧ seqD z c ∧ Q (zip3D a b c)
theorem rpSq {K : PySem.W.Frag} {c : CEnv} {S : Option Addr} {G : Hp} {v : V} {d : Da} {l : List Da} (h : Rp K c S G v d) (e : seqD d l) : ∃ a k xs, v = .ref a ∧ (∀ G', Same G G' → SqK K k G' a xs) ∧ RpA K c S G xs l := by
  rcases e with rfl | rfl
  · obtain ⟨a, xs, rfl, e, r⟩ := rpL h
    exact ⟨a, false, xs, rfl, fun G' s => SqL.of (s _ _ e), r⟩
  · obtain ⟨a, xs, rfl, e, r⟩ := rpT h
    exact ⟨a, true, xs, rfl, fun G' s => Same.sqT s e, r⟩
theorem rps3 {K : PySem.W.Frag} {c : CEnv} {S : Option Addr} {G : Hp} {vs : List V} {d e f : Da} (h : RpA K c S G vs [d, e, f]) : ∃ v u w, vs = [v, u, w] ∧ Rp K c S G v d ∧ Rp K c S G u e ∧ Rp K c S G w f := by
  obtain ⟨v, ws, rfl, a, h⟩ := rpsC h
  obtain ⟨u, ws, rfl, b, h⟩ := rpsC h
  obtain ⟨w, ws, rfl, c, h⟩ := rpsC h
  rw [rps0 h]
  exact ⟨v, u, w, rfl, a, b, c⟩
section
variable {N : Cn}
theorem sim_iZip2 {t : TA} {p : PAr} (h : SimA N t p) : SimI N (iZip2 N.K t) (piZip2 p) := by
  intro w H0 B aw ow H σ ρ R Q' r q k
  refine h w H0 B aw ow H σ ρ _ _ r q fun vs ds H1 r1 x1 h1 q1 => ?_
  obtain ⟨x, y, a, b, rfl, sx, sy, q1⟩ := q1
  obtain ⟨v, u, rfl, ha, hb⟩ := rps2 h1
  obtain ⟨pa, k1, xs, rfl, ea, ra⟩ := rpSq ha sx
  obtain ⟨pb, k2, ys, rfl, eb, rb⟩ := rpSq hb sy
  have la := rpsLen ra
  have lb := rpsLen rb
  refine ⟨pa, pb, k1, k2, xs, ys, rfl, ea _ hid_le, eb _ hid_le, k _ _ H1 r1 x1 ⟨fun i H h s => ⟨xs, ys, ea _ s, eb _ s, by rw [zipD_len] at h; omega⟩, fun i H h s => ?_, fun i H x H' d hd s y => ?_⟩ q1⟩
  · rw [zipD_len] at h
    have h1 : i < xs.length := by omega
    have h2 : i < ys.length := by omega
    exact ⟨xs, ys, xs[i], ys[i], ea _ s, eb _ s, by simp [h1], by simp [h2]⟩
  · obtain ⟨T, x1, y1, rfl, hT, rfl, f1, f2⟩ := y
    obtain ⟨d1, d2, e1, e2, rfl⟩ := zipD_get hd
    obtain ⟨v, hv, rv⟩ := rpsGet ra e1
    obtain ⟨u, hu, ru⟩ := rpsGet rb e2
    have z1 := f1 xs (ea _ s)
    have z2 := f2 ys (eb _ s)
    rw [hv] at z1; rw [hu] at z2
    cases z1; cases z2
    exact ⟨Same.new hT (Same.refl _), fun O oc t => rp_pair hT oc (rpS t rv) (rpS t ru)⟩
theorem zip3D_get {a b c : List Da} {i : Nat} {d : Da} (h : (zip3D a b c)[i]? = some d) : ∃ x y z, a[i]? = some x ∧ b[i]? = some y ∧ c[i]? = some z ∧ d = .tup [x, y, z] := by
  unfold zip3D at h
  rw [List.getElem?_map] at h
  cases e : (a.zip (b.zip c))[i]? with
  | none => rw [e] at h; cases h
  | some z =>
    rw [e] at h
    obtain ⟨h1, h2⟩ := List.getElem?_zip_eq_some.mp e
    obtain ⟨h2, h3⟩ := List.getElem?_zip_eq_some.mp h2
    exact ⟨z.1, z.2.1, z.2.2, h1, h2, h3, (Option.some.inj h).symm⟩
theorem zip3D_len {a b c : List Da} : (zip3D a b c).length = min a.length (min b.length c.length) := by unfold zip3D; rw [List.length_map, List.length_zip, List.length_zip]
theorem sim_iZip3 {t : TA} {p : PAr} (h : SimA N t p) : SimI N (iZip3 N.K t) (piZip3 p) := by
  intro w H0 B aw ow H σ ρ R Q' r q k
  refine h w H0 B aw ow H σ ρ _ _ r q fun vs ds H1 r1 x1 h1 q1 => ?_
  obtain ⟨x, y, z, a, b, c, rfl, sx, sy, sz, q1⟩ := q1
  obtain ⟨v, u, t, rfl, ha, hb, hc⟩ := rps3 h1
  obtain ⟨pa, k1, xs, rfl, ea, ra⟩ := rpSq ha sx
  obtain ⟨pb, k2, ys, rfl, eb, rb⟩ := rpSq hb sy
  obtain ⟨pc, k3, zs, rfl, ec, rc⟩ := rpSq hc sz
  have la := rpsLen ra
  have lb := rpsLen rb
  have lc := rpsLen rc
  refine ⟨pa, pb, pc, k1, k2, k3, xs, ys, zs, rfl, ea _ hid_le, eb _ hid_le, ec _ hid_le, k _ _ H1 r1 x1 ⟨fun i H h s => ⟨xs, ys, zs, ea _ s, eb _ s, ec _ s, by rw [zip3D_len] at h; omega⟩, fun i H h s => ?_, fun i H x H' d hd s y => ?_⟩ q1⟩
  · rw [zip3D_len] at h
    have h1 : i < xs.length := by omega
    have h2 : i < ys.length := by omega
    have h3 : i < zs.length := by omega
    exact ⟨xs, ys, zs, xs[i], ys[i], zs[i], ea _ s, eb _ s, ec _ s, by simp [h1], by simp [h2], by simp [h3]⟩
  · obtain ⟨T, x1, y1, z1, rfl, hT, rfl, f1, f2, f3⟩ := y
    obtain ⟨d1, d2, d3, e1, e2, e3, rfl⟩ := zip3D_get hd
    obtain ⟨v, hv, rv⟩ := rpsGet ra e1
    obtain ⟨u, hu, ru⟩ := rpsGet rb e2
    obtain ⟨t, ht, rt⟩ := rpsGet rc e3
    have z1 := f1 xs (ea _ s)
    have z2 := f2 ys (eb _ s)
    have z3 := f3 zs (ec _ s)
    rw [hv] at z1; rw [hu] at z2; rw [ht] at z3
    cases z1; cases z2; cases z3
    exact ⟨Same.new hT (Same.refl _), fun O oc t => .tup (SqT.of (hid_lk (oc.no hT) upd_same)) (.cons (rpS (hid_new hT) (rpS t rv)) (.cons (rpS (hid_new hT) (rpS t ru)) (.cons (rpS (hid_new hT) (rpS t rt)) .nil)))⟩
end
theorem p_izip2 {t : PAr} {ρ : PEnv} {QA : List Da → Prop} (k : t ρ fun ds => ∃ x y a b, ds = [x, y] ∧ seqD x a ∧ seqD y b ∧ QA (zipD a b)) : piZip2 t ρ QA := k
theorem p_zip2 {x y : Da} {a b : List Da} {P : List Da → List Da → Prop} (h1 : seqD x a) (h2 : seqD y b) (k : P a b) : ∃ x' y' a b, [x, y] = [x', y'] ∧ seqD x' a ∧ seqD y' b ∧ P a b := ⟨x, y, a, b, rfl, h1, h2, k⟩
theorem p_izip3 {t : PAr} {ρ : PEnv} {QA : List Da → Prop} (k : t ρ fun ds => ∃ x y z a b c, ds = [x, y, z] ∧ seqD x a ∧ seqD y b ∧ seqD z c ∧ QA (zip3D a b c)) : piZip3 t ρ QA := k
theorem p_zip3 {x y z : Da} {a b c : List Da} {P : List Da → List Da → List Da → Prop} (h1 : seqD x a) (h2 : seqD y b) (h3 : seqD z c) (k : P a b c) : ∃ x' y' z' a b c, [x, y, z] = [x', y', z'] ∧ seqD x' a ∧ seqD y' b ∧ seqD z' c ∧ P a b c := ⟨x, y, z, a, b, c, rfl, h1, h2, h3, k⟩

/-! ### the root -/
def rootN : Nat → Nat
  | 0 => 0
  | n + 1 => if (rootN n + 1) * (rootN n + 1) ≤ n + 1 then rootN n + 1 else rootN n
theorem rootN_spec (n : Nat) : rootN n * rootN n ≤ n ∧ n < (rootN n + 1) * (rootN n + 1) := by
  induction n with
  | zero => exact ⟨Nat.le_refl _, by decide⟩
  | succ n ih =>
    obtain ⟨h1, h2⟩ := ih
    unfold rootN
    split
    · rename_i h
      refine ⟨h, ?_⟩
      generalize rootN n = r at *
      have e : (r + 1 + 1) * (r + 1 + 1) = (r + 1) * (r + 1) + 2 * (r + 1) + 1 := by
        simp only [Nat.add_mul, Nat.mul_add]; omega
      omega
    · rename_i h
      refine ⟨by omega, by omega⟩
def rootZ (n : Int) : Int := (rootN n.toNat : Nat)
theorem rootZ_nn (n : Int) : 0 ≤ rootZ n := Int.natCast_nonneg _
theorem rootZ_spec {n : Int} (h : 0 ≤ n) : rootZ n * rootZ n ≤ n ∧ n < (rootZ n + 1) * (rootZ n + 1) := by
  have s := rootN_spec n.toNat
  unfold rootZ
  generalize rootN n.toNat = r at *
  have e : ((n.toNat : Nat) : Int) = n := Int.toNat_of_nonneg h
  constructor
  · have := Int.ofNat_le.mpr s.1
    rw [← e]; push_cast at this ⊢; exact this
  · have := Int.ofNat_lt.mpr s.2
    rw [← e]; push_cast at this ⊢; exact this
theorem sq_lt {a b : Int} (h0 : 0 ≤ a) (hb : 0 ≤ b) (h : a * a < b * b) : a < b := by
  rcases Int.lt_or_le a b with h1 | h1
  · exact h1
  · have := Int.mul_le_mul h1 h1 hb h0
    omega
theorem rootZ_uniq {n r : Int} (h0 : 0 ≤ r) (h1 : r * r ≤ n) (h2 : n < (r + 1) * (r + 1)) : r = rootZ n := by
  have hn : 0 ≤ n := Int.le_trans (Int.mul_nonneg h0 h0) h1
  obtain ⟨s1, s2⟩ := rootZ_spec hn
  have s0 := rootZ_nn n
  have a := sq_lt h0 (by omega) (Int.lt_of_le_of_lt h1 s2)
  have b := sq_lt s0 (by omega) (Int.lt_of_le_of_lt s1 h2)
  omega
theorem rootZ_neg {n : Int} (h : n < 0) : rootZ n = 0 := by
  unfold rootZ
  rw [Int.toNat_of_nonpos (by omega)]; rfl
/-- a factor is short when its square is -/
theorem mul_sq {a n : Int} {b : Nat} (h0 : 0 ≤ a) (h : a * a ≤ n) (hn : n < 2 ^ b) (hb : 0 < b ∧ b ≤ 400000) : MulOk a a := by
  have h1 : a.natAbs < 2 ^ b := by
    have h3 : a ≤ a * a := by
      rcases Int.lt_or_le a 1 with z | z
      · have : a = 0 := by omega
        subst this; simp
      · have := Int.mul_le_mul_of_nonneg_right z h0
        omega
    have h4 : ((2 ^ b : Nat) : Int) = (2 : Int) ^ b := by simp
    omega
  exact .inr (wide_mul h1 h1 hb.1 hb.1 (by omega))
-- root(number): slots 0:number 1:low 2:high 3:middle
def T_root_b1 (K : PySem.W.Frag) : TS :=
    (tAsg (tOp uMul (tVar 2) (tC (.int 2))) (gName 2))
def T_root_b2 (K : PySem.W.Frag) : TS :=
    (tSeq (tAsg (tOp uDiv (tOp (uAdd K) (tVar 1) (tVar 2)) (tC (.int 2))) (gName 3))
    (tIfS (tTest (tOp uLe (tOp uMul (tVar 3) (tVar 3)) (tVar 0))) (tAsg (tVar 3) (gName 1)) (tAsg (tVar 3) (gName 2))))
def T_root (K : PySem.W.Frag) : TS :=
    (tSeq (tAsg (tC (.int 0)) (gName 1))
    (tSeq (tAsg (tC (.int 1)) (gName 2))
    (tSeq (tWhile (tTest (tOp uLe (tOp uMul (tVar 2) (tVar 2)) (tVar 0))) (T_root_b1 K))
    (tSeq (tWhile (tTest (tOp uGt (tOp uSub (tVar 2) (tVar 1)) (tC (.int 1)))) (T_root_b2 K))
    (tRet (tVar 1))))))
def sp_root (K : PySem.W.Frag) : Sp := fun vs H Q _ => ∃ n : Int, vs = [.int n] ∧ n < 2 ^ 100000 ∧ Q (.int (rootZ n)) H
theorem r_root {K : PySem.W.Frag} {n : Int} {H : Hp} {D : Ends} (hn : n < 2 ^ 100000) (k : D.rt (.int (rootZ n)) H) : T_root K D [some (.int n), none, none, none] H := by
  unfold T_root
  walk_at "zz"
  have p2 : (2 : Int) ^ 100000 > 0 := Int.pow_pos (by decide)
  have pe : (2 : Int) ^ 100000 * 4 + 1 < 2 ^ 100003 := by
    have : (2 : Int) ^ 100003 = 2 ^ 100000 * 8 := by rw [show (100003 : Nat) = 100000 + 3 from rfl, Int.pow_add]; rfl
    omega
  generalize hM : (2 : Int) ^ 100000 = M at *
  refine z_while (fun m σ H' => H = H' ∧ ∃ h : Int, σ = [some (.int n), some (.int 0), some (.int h), none] ∧ 1 ≤ h ∧ (h = 1 ∨ h * h ≤ 4 * n) ∧ m = (n + 1 - h).toNat) (n + 1 - 1).toNat ⟨rfl, 1, rfl, by decide, .inl rfl, rfl⟩ ?_
  rintro m σ H' ⟨rfl, h, rfl, h1, h2, rfl⟩
  walk_at "zz"
  refine z_mul ?_ ?_
  · have : h * h ≤ 4 * M + 1 := by
      rcases h2 with rfl | h2 <;> omega
    exact mul_sq (n := h * h) (b := 100003) (by omega) (Int.le_refl _) (by omega) (by decide)
  walk_at "zz"
  refine z_itD (fun c => z_turn ?_) (fun c => ?_)
  · unfold T_root_b1
    walk_at "zz"
    have h3 : h ≤ n := by
      have := Int.mul_le_mul_of_nonneg_left h1 (show 0 ≤ h by omega)
      omega
    refine ⟨_, ?_, rfl, h * 2, rfl, by omega, .inr ?_, rfl⟩
    · omega
    · have : h * 2 * (h * 2) = 4 * (h * h) := by
        rw [Int.mul_assoc, Int.mul_left_comm 2 h 2, ← Int.mul_assoc, Int.mul_comm (h * h)]; rfl
      omega
  walk_at "zz"
  refine z_while (fun m σ H' => H = H' ∧ ∃ (lo hi : Int) (v : Option V), σ = [some (.int n), some (.int lo), some (.int hi), v] ∧ 0 ≤ lo ∧ lo < hi ∧ n < hi * hi ∧ (0 ≤ n → lo * lo ≤ n) ∧ hi ≤ h ∧ m = (hi - lo).toNat) (h - 0).toNat ⟨rfl, 0, h, none, rfl, by omega, by omega, by omega, fun z => by omega, Int.le_refl _, rfl⟩ ?_
  rintro m σ H' ⟨rfl, lo, hi, v, rfl, g1, g2, g3, g4, g5, rfl⟩
  walk_at "zz"
  refine z_itD (fun c2 => z_turn ?_) (fun c2 => ?_)
  · unfold T_root_b2
    walk_at "zz"
    have e1 : lo < (lo + hi) / 2 := by omega
    have e2 : (lo + hi) / 2 < hi := by omega
    generalize (lo + hi) / 2 = md at *
    have hm : md * md ≤ h * h := Int.mul_le_mul (by omega) (by omega) (by omega) (by omega)
    refine z_mul ?_ ?_
    · refine mul_sq (n := h * h) (b := 100003) (by omega) hm ?_ (by decide)
      rcases h2 with rfl | h2 <;> omega
    walk_at "zz"
    refine z_itD (fun c3 => ?_) (fun c3 => ?_)
    · walk_at "zz"
      exact ⟨_, by omega, rfl, md, hi, _, rfl, by omega, by omega, g3, fun _ => c3, g5, rfl⟩
    · walk_at "zz"
      exact ⟨_, by omega, rfl, lo, md, _, rfl, by omega, by omega, by omega, g4, by omega, rfl⟩
  · walk_at "zz"
    have e : hi = lo + 1 := by omega
    subst e
    rcases Int.lt_or_le n 0 with hz | hz
    · have : lo = 0 := by
        rcases h2 with rfl | h2
        · omega
        · exfalso
          have := Int.mul_nonneg (show 0 ≤ h by omega) (show 0 ≤ h by omega)
          omega
      subst this
      rw [rootZ_neg hz] at k
      exact k
    · rw [← rootZ_uniq g1 (g4 hz) g3] at k
      exact k
theorem root_c {K : PySem.W.Frag} {n : Int} {H : Hp} {Q : VK} {E : XK} (hn : n < 2 ^ 100000) (k : Q (.int (rootZ n)) H) : sp_root K [.int n] H Q E := ⟨n, rfl, hn, k⟩
-- gap(far, near): slots 0:far 1:near
def T_gap (K : PySem.W.Frag) : TS :=
    (tSeq (tIfS (tTest (tOp uGe (tVar 1) (tVar 0))) (tRet (tC (.int 0))) tNext)
    (tRet (tOp uSub (tOp (uAdd K) (tVar 0) (tVar 1)) (tCal (sp_root K) (tCons (tOp uMul (tOp uMul (tC (.int 4)) (tVar 0)) (tVar 1)) tNil)))))
def gapZ (far near : Int) : Int := if near ≥ far then 0 else far + near - rootZ (4 * far * near)
def Short (a : Int) : Prop := a.natAbs < 2 ^ 40000
theorem Short.mul {a b : Int} (ha : Short a) (hb : Short b) : MulOk a b := .inr (wide_mul ha hb (by decide) (by decide) (by decide))
theorem pow_le_pow {a b : Nat} (h : a ≤ b) : (2 : Nat) ^ a ≤ 2 ^ b := Nat.pow_le_pow_right (by decide) h
theorem Short.of {a : Int} {b : Nat} (h : a.natAbs < 2 ^ b) (hb : b ≤ 40000) : Short a := Nat.lt_of_lt_of_le h (pow_le_pow hb)
theorem Short.four {a : Int} (ha : Short a) : (4 * a).natAbs < 2 ^ 40003 := by
  rw [Int.natAbs_mul, show (40003 : Nat) = 3 + 40000 from rfl, Nat.pow_add]
  exact Nat.mul_lt_mul'' (by decide) ha
theorem Short.mul4 {a b : Int} (ha : Short a) (hb : Short b) : MulOk (4 * a) b := .inr (wide_mul ha.four hb (by decide) (by decide) (by decide))
theorem mul4 {a b : Int} (ha : Short a) (hb : Short b) : 4 * a * b < 2 ^ 100000 := by
  have h1 : (4 * a * b).natAbs < 2 ^ (3 + 40000 + 40000) := by
    rw [Int.natAbs_mul, Int.natAbs_mul, Nat.pow_add, Nat.pow_add]
    exact Nat.mul_lt_mul'' (Nat.mul_lt_mul'' (by decide) ha) hb
  have h2 : (2 : Nat) ^ (3 + 40000 + 40000) ≤ 2 ^ 100000 := pow_le_pow (by decide)
  have h3 : ((2 ^ 100000 : Nat) : Int) = (2 : Int) ^ 100000 := by rw [Int.natCast_pow]; rfl
  rw [← h3]
  generalize (2 : Nat) ^ 100000 = M at *
  generalize (2 : Nat) ^ (3 + 40000 + 40000) = M2 at *
  omega
def sp_gap (K : PySem.W.Frag) : Sp := fun vs H Q _ => ∃ far near : Int, vs = [.int far, .int near] ∧ Short far ∧ Short near ∧ Q (.int (gapZ far near)) H
theorem r_gap {K : PySem.W.Frag} {far near : Int} {H : Hp} {D : Ends} (h1 : Short far) (h2 : Short near) (k : D.rt (.int (gapZ far near)) H) : T_gap K D [some (.int far), some (.int near)] H := by
  unfold T_gap
  walk_at "zz"
  refine z_itD (fun c => ?_) (fun c => ?_)
  · walk_at "zz"
    rw [show gapZ far near = 0 from if_pos c] at k
    exact k
  · walk_at "zz"
    refine z_mul ?_ ?_
    · exact Short.mul4 h1 h2
    walk_at "zz"
    refine root_c (mul4 h1 h2) ?_
    walk_at "zz"
    rw [show gapZ far near = far + near - rootZ (4 * far * near) from if_neg c] at k
    exact k
abbrev N_root : List Str := ["number", "low", "high", "middle"]
theorem w_root {K : PySem.W.Frag} : Wd (T_root K) N_root 1 (sp_root K) := fun vs H Q E h => by
  obtain ⟨n, rfl, hn, k⟩ := h
  exact ⟨rfl, r_root hn k⟩
abbrev N_gap : List Str := ["far", "near"]
theorem w_gap {K : PySem.W.Frag} : Wd (T_gap K) N_gap 2 (sp_gap K) := fun vs H Q E h => by
  obtain ⟨far, near, rfl, h1, h2, k⟩ := h
  exact ⟨rfl, r_gap h1 h2 k⟩

/-! ### vectors -/
def innerZ : List Int → List Int → Int
  | x :: xs, y :: ys => x * y + innerZ xs ys
  | _, _ => 0
def distZ : List Int → List Int → Int
  | x :: xs, y :: ys => (x - y) * (x - y) + distZ xs ys
  | _, _ => 0
def diffZ : List Int → List Int → Int
  | x :: xs, y :: ys => (if x = y then 0 else 1) + diffZ xs ys
  | _, _ => 0
theorem sq_nn (x : Int) : 0 ≤ x * x := by
  rcases Int.le_total 0 x with h | h
  · exact Int.mul_nonneg h h
  · exact Int.mul_nonneg_of_nonpos_of_nonpos h h
theorem distZ_nn : ∀ a b : List Int, 0 ≤ distZ a b
  | x :: xs, y :: ys => Int.add_nonneg (sq_nn _) (distZ_nn xs ys)
  | [], _ => Int.le_refl 0
  | _ :: _, [] => Int.le_refl 0
theorem distZ_comm : ∀ a b : List Int, distZ a b = distZ b a
  | x :: xs, y :: ys => by
    show (x - y) * (x - y) + _ = (y - x) * (y - x) + _
    rw [distZ_comm xs ys, show x - y = -(y - x) by omega, Int.neg_mul_neg]
  | [], [] => rfl
  | [], _ :: _ => rfl
  | _ :: _, [] => rfl
theorem take_s {xs : List Int} {i : Nat} (h : i < xs.length) : xs.take (i + 1) = xs.take i ++ [xs.getD i 0] := by
  rw [List.take_succ, List.getElem?_eq_getElem h]
  simp [List.getD, h]
theorem distZ_app : ∀ (a b : List Int) (x y : Int), a.length = b.length → distZ (a ++ [x]) (b ++ [y]) = distZ a b + (x - y) * (x - y)
  | [], [], x, y, _ => by show (x - y) * (x - y) + 0 = 0 + (x - y) * (x - y); omega
  | [], _ :: _, _, _, h => by cases h
  | _ :: _, [], _, _, h => by cases h
  | u :: a, v :: b, x, y, h => by
    show (u - v) * (u - v) + distZ (a ++ [x]) (b ++ [y]) = (u - v) * (u - v) + distZ a b + (x - y) * (x - y)
    rw [distZ_app a b x y (by simpa using h)]; omega
theorem innerZ_app : ∀ (a b : List Int) (x y : Int), a.length = b.length → innerZ (a ++ [x]) (b ++ [y]) = innerZ a b + x * y
  | [], [], x, y, _ => by show x * y + 0 = 0 + x * y; omega
  | [], _ :: _, _, _, h => by cases h
  | _ :: _, [], _, _, h => by cases h
  | u :: a, v :: b, x, y, h => by
    show u * v + innerZ (a ++ [x]) (b ++ [y]) = u * v + innerZ a b + x * y
    rw [innerZ_app a b x y (by simpa using h)]; omega
theorem diffZ_app : ∀ (a b : List Int) (x y : Int), a.length = b.length → diffZ (a ++ [x]) (b ++ [y]) = diffZ a b + (if x = y then 0 else 1)
  | [], [], x, y, _ => by show (if x = y then (0 : Int) else 1) + 0 = 0 + (if x = y then 0 else 1); omega
  | [], _ :: _, _, _, h => by cases h
  | _ :: _, [], _, _, h => by cases h
  | u :: a, v :: b, x, y, h => by
    show (if u = v then (0 : Int) else 1) + diffZ (a ++ [x]) (b ++ [y]) = (if u = v then 0 else 1) + diffZ a b + (if x = y then 0 else 1)
    rw [diffZ_app a b x y (by simpa using h)]; omega
theorem distZ_take {a b : List Int} {i : Nat} (h : a.length = b.length) (hi : i < a.length) : distZ (a.take (i + 1)) (b.take (i + 1)) = distZ (a.take i) (b.take i) + (a.getD i 0 - b.getD i 0) * (a.getD i 0 - b.getD i 0) := by
  rw [take_s hi, take_s (h ▸ hi), distZ_app _ _ _ _ (by simp [h])]
theorem innerZ_take {a b : List Int} {i : Nat} (h : a.length = b.length) (hi : i < a.length) : innerZ (a.take (i + 1)) (b.take (i + 1)) = innerZ (a.take i) (b.take i) + a.getD i 0 * b.getD i 0 := by
  rw [take_s hi, take_s (h ▸ hi), innerZ_app _ _ _ _ (by simp [h])]
theorem diffZ_take {a b : List Int} {i : Nat} (h : a.length = b.length) (hi : i < a.length) : diffZ (a.take (i + 1)) (b.take (i + 1)) = diffZ (a.take i) (b.take i) + (if a.getD i 0 = b.getD i 0 then 0 else 1) := by
  rw [take_s hi, take_s (h ▸ hi), diffZ_app _ _ _ _ (by simp [h])]
/-- all within b of nought -/
def Bd (b : Int) (ns : List Int) : Prop := ∀ x ∈ ns, -b ≤ x ∧ x ≤ b
theorem Bd.app {b x : Int} {ns : List Int} (h : Bd b ns) (h1 : -b ≤ x) (h2 : x ≤ b) : Bd b (ns ++ [x]) := fun y hy => by
  rcases List.mem_append.mp hy with hy | hy
  · exact h y hy
  · rw [List.mem_singleton.mp hy]; exact ⟨h1, h2⟩
theorem Bd.mono {b c : Int} {ns : List Int} (h : Bd b ns) (hbc : b ≤ c) : Bd c ns := fun y hy => by have := h y hy; omega
theorem getD_mem {ns : List Int} {i : Nat} (h : i < ns.length) : ns.getD i 0 ∈ ns := by
  rw [List.getD_eq_getElem?_getD, List.getElem?_eq_getElem h]; exact List.getElem_mem h
theorem Bd.at {b : Int} {ns : List Int} (h : Bd b ns) {i : Nat} (hi : i < ns.length) : -b ≤ ns.getD i 0 ∧ ns.getD i 0 ≤ b := h _ (getD_mem hi)
theorem sq_le {x b : Int} (h1 : -b ≤ x) (h2 : x ≤ b) : x * x ≤ b * b := by
  rcases Int.le_total 0 x with h | h
  · exact Int.mul_le_mul h2 h2 h (by omega)
  · have := Int.mul_le_mul (show -x ≤ b by omega) (show -x ≤ b by omega) (show 0 ≤ -x by omega) (show 0 ≤ b by omega)
    rw [Int.neg_mul_neg] at this; exact this
theorem distZ_le {b : Int} : ∀ {xs ys : List Int}, Bd b xs → Bd b ys → distZ xs ys ≤ xs.length * (4 * (b * b))
  | [], _, _, _ => by simp [distZ]
  | x :: xs, [], _, _ => by
    have := sq_nn b
    show (0 : Int) ≤ _
    exact Int.mul_nonneg (Int.natCast_nonneg _) (by omega)
  | x :: xs, y :: ys, h1, h2 => by
    have ih := distZ_le (b := b) (fun z hz => h1 z (List.mem_cons_of_mem _ hz)) (fun z hz => h2 z (List.mem_cons_of_mem _ hz)) (xs := xs) (ys := ys)
    have a := h1 x List.mem_cons_self
    have c := h2 y List.mem_cons_self
    have e := sq_le (x := x - y) (b := 2 * b) (by omega) (by omega)
    have e2 : 2 * b * (2 * b) = 4 * (b * b) := by rw [Int.mul_assoc, Int.mul_left_comm b 2 b, ← Int.mul_assoc]; rfl
    show (x - y) * (x - y) + distZ xs ys ≤ ((xs.length + 1 : Nat) : Int) * (4 * (b * b))
    rw [Int.natCast_add, Int.add_mul]
    generalize (xs.length : Int) * (4 * (b * b)) = u at *
    generalize b * b = v at *
    omega
/-- the quadratic form of two vectors -/
theorem quad : ∀ (a b : List Int) (l m : Int), a.length = b.length → 0 ≤ l * l * innerZ a a + 2 * (l * m) * innerZ a b + m * m * innerZ b b
  | [], [], l, m, _ => by show 0 ≤ l * l * 0 + 2 * (l * m) * 0 + m * m * 0; simp
  | [], _ :: _, _, _, h => by cases h
  | _ :: _, [], _, _, h => by cases h
  | x :: a, y :: b, l, m, h => by
    have ih := quad a b l m (by simpa using h)
    have s := sq_nn (l * x + m * y)
    show 0 ≤ l * l * (x * x + innerZ a a) + 2 * (l * m) * (x * y + innerZ a b) + m * m * (y * y + innerZ b b)
    have e : (l * x + m * y) * (l * x + m * y) = l * l * (x * x) + 2 * (l * m) * (x * y) + m * m * (y * y) := by
      have e1 : l * x * (l * x) = l * l * (x * x) := by ac_rfl
      have e2 : l * x * (m * y) = l * m * (x * y) := by ac_rfl
      have e3 : m * y * (l * x) = l * m * (x * y) := by ac_rfl
      have e4 : m * y * (m * y) = m * m * (y * y) := by ac_rfl
      rw [Int.add_mul, Int.mul_add, Int.mul_add, e1, e2, e3, e4, Int.mul_assoc 2]
      omega
    rw [e] at s
    simp only [Int.mul_add]
    omega
theorem inner_sq_nn : ∀ a : List Int, 0 ≤ innerZ a a
  | [] => Int.le_refl 0
  | x :: a => Int.add_nonneg (sq_nn x) (inner_sq_nn a)
/-- Cauchy, Schwarz -/
theorem cauchy {a b : List Int} (h : a.length = b.length) : innerZ a b * innerZ a b ≤ innerZ a a * innerZ b b := by
  have hA := inner_sq_nn a
  have hB := inner_sq_nn b
  have q1 := quad a b (innerZ b b) (-innerZ a b) h
  have q2 := quad a b (innerZ a b) (-(innerZ a a + 1)) h
  generalize innerZ a a = A at *
  generalize innerZ b b = B at *
  generalize innerZ a b = S at *
  rcases Int.lt_or_le 0 B with z | z
  · have e : B * B * A + 2 * (B * -S) * S + -S * -S * B = B * (A * B - S * S) := by
      have e1 : B * B * A = B * (A * B) := by ac_rfl
      have e2 : 2 * (B * -S) * S = -(2 * (B * (S * S))) := by
        rw [Int.mul_neg, Int.mul_neg, Int.neg_mul]; congr 1; ac_rfl
      have e3 : -S * -S * B = B * (S * S) := by rw [Int.neg_mul_neg]; ac_rfl
      rw [e1, e2, e3, Int.mul_sub]; omega
    rw [e] at q1
    have : 0 ≤ A * B - S * S := by
      rcases Int.lt_or_le (A * B - S * S) 0 with n | n
      · have := Int.mul_neg_of_pos_of_neg z n
        omega
      · exact n
    omega
  · have hB0 : B = 0 := by omega
    subst hB0
    have e : S * S * A + 2 * (S * -(A + 1)) * S + -(A + 1) * -(A + 1) * 0 = -(S * S * (A + 2)) := by
      have e1 : 2 * (S * -(A + 1)) * S = -(2 * (S * S * (A + 1))) := by
        rw [Int.mul_neg, Int.mul_neg, Int.neg_mul]; congr 1; ac_rfl
      rw [e1, Int.mul_zero]; simp only [Int.mul_add]; omega
    rw [e] at q2
    have s0 := sq_nn S
    rw [Int.mul_zero]
    rcases Int.lt_or_le 0 (S * S) with n | n
    · have := Int.mul_pos n (show 0 < A + 2 by omega)
      omega
    · exact n
/-- the distances of three points -/
theorem dist3 : ∀ (a b c : List Int), a.length = b.length → b.length = c.length → ∃ x y : List Int, x.length = y.length ∧ distZ a b = innerZ x x ∧ distZ b c = innerZ y y ∧ distZ a c = innerZ x x + innerZ y y + 2 * innerZ x y
  | [], [], [], _, _ => ⟨[], [], rfl, rfl, rfl, rfl⟩
  | u :: a, v :: b, w :: c, h1, h2 => by
    obtain ⟨x, y, e0, e1, e2, e3⟩ := dist3 a b c (by simpa using h1) (by simpa using h2)
    refine ⟨(u - v) :: x, (v - w) :: y, by simp [e0], ?_, ?_, ?_⟩
    · show _ + _ = _ + _; rw [e1]
    · show _ + _ = _ + _; rw [e2]
    · show (u - w) * (u - w) + distZ a c = ((u - v) * (u - v) + innerZ x x) + ((v - w) * (v - w) + innerZ y y) + 2 * ((u - v) * (v - w) + innerZ x y)
      rw [e3, show u - w = (u - v) + (v - w) by omega]
      generalize u - v = p
      generalize v - w = q
      simp only [Int.add_mul, Int.mul_add, Int.mul_comm q p]
      omega
  | [], [], _ :: _, _, h => by cases h
  | [], _ :: _, _, h, _ => by cases h
  | _ :: _, [], _, h, _ => by cases h
  | _ :: _, _ :: _, [], _, h => by cases h
/-- the heart of the gap: with A, B, C the three distances -/
theorem gap_core {A B C far near : Int} (hC : 0 ≤ C) (hB : 0 ≤ B) (h4 : (C - A - B) * (C - A - B) ≤ 4 * (A * B)) (h1 : far ≤ A) (h2 : B ≤ near) (h3 : near < far) (t : 0 < far + near - C) :
    (far + near - C) * (far + near - C) ≤ 4 * (far * near) := by
  have id : ∀ u v : Int, 4 * (u * v) - (u + v - C) * (u + v - C) = 2 * (C * (u + v)) - (u - v) * (u - v) - C * C := fun u v => by
    simp only [Int.add_mul, Int.sub_mul, Int.mul_add, Int.mul_sub, Int.mul_comm v u, Int.mul_comm C u, Int.mul_comm C v]; omega
  have hAB : 0 ≤ 2 * (C * (A + B)) - (A - B) * (A - B) - C * C := by
    rw [← id A B]
    have : (C - A - B) * (C - A - B) = (A + B - C) * (A + B - C) := by
      rw [show C - A - B = -(A + B - C) by omega, Int.neg_mul_neg]
    omega
  have hn : 0 ≤ near := by omega
  have goal : 0 ≤ 2 * (C * (far + near)) - (far - near) * (far - near) - C * C := by
    rcases Int.lt_or_le C (far - near) with c | c
    · -- far from it: first from B to near, then from A to far
      have s1 : 0 ≤ 2 * (C * (A + near)) - (A - near) * (A - near) - C * C := by
        have m := Int.mul_nonneg (show 0 ≤ near - B by omega) (show 0 ≤ 2 * A - B - near + 2 * C by omega)
        have e : (near - B) * (2 * A - B - near + 2 * C) = (2 * (C * (A + near)) - (A - near) * (A - near)) - (2 * (C * (A + B)) - (A - B) * (A - B)) := by
          simp only [Int.add_mul, Int.sub_mul, Int.mul_add, Int.mul_sub, Int.mul_comm near A, Int.mul_comm B A, Int.mul_comm near B, Int.mul_comm C A, Int.mul_comm C B, Int.mul_comm C near, Int.mul_left_comm near 2, Int.mul_left_comm B 2]; omega
        omega
      have m := Int.mul_nonneg (show 0 ≤ A - far by omega) (show 0 ≤ A + far - 2 * near - 2 * C by omega)
      have e : (A - far) * (A + far - 2 * near - 2 * C) = (2 * (C * (far + near)) - (far - near) * (far - near)) - (2 * (C * (A + near)) - (A - near) * (A - near)) := by
        simp only [Int.add_mul, Int.sub_mul, Int.mul_add, Int.mul_sub, Int.mul_comm near A, Int.mul_comm far A, Int.mul_comm near far, Int.mul_comm C A, Int.mul_comm C far, Int.mul_comm C near, Int.mul_left_comm A 2, Int.mul_left_comm far 2]; omega
      omega
    · have m1 := Int.mul_nonneg hC (show 0 ≤ far + 3 * near - C by omega)
      have m2 := Int.mul_nonneg (show 0 ≤ far - near by omega) (show 0 ≤ C - (far - near) by omega)
      have e1 : C * (far + 3 * near - C) = 2 * (C * (far + near)) - C * (far - near) - C * C := by
        simp only [Int.mul_add, Int.mul_sub, Int.mul_left_comm C 3]; omega
      have e2 : (far - near) * (C - (far - near)) = C * (far - near) - (far - near) * (far - near) := by
        rw [Int.mul_sub, Int.mul_comm (far - near) C]
      omega
  have := id far near
  omega
theorem le_root {t n : Int} (h0 : 0 ≤ t) (h : t * t ≤ n) : t ≤ rootZ n := by
  obtain ⟨s1, s2⟩ := rootZ_spec (Int.le_trans (Int.mul_nonneg h0 h0) h)
  have := sq_lt h0 (show 0 ≤ rootZ n + 1 by have := rootZ_nn n; omega) (Int.lt_of_le_of_lt h s2)
  omega
theorem root_le {t n : Int} (h0 : 0 ≤ t) (hn : 0 ≤ n) (h : n ≤ t * t) : rootZ n ≤ t := by
  obtain ⟨s1, s2⟩ := rootZ_spec hn
  rcases Int.lt_or_le t (rootZ n) with z | z
  · have := Int.mul_lt_mul z (Int.le_of_lt z)
    exfalso
    have h3 : t * t < rootZ n * rootZ n := by
      have a := Int.mul_le_mul_of_nonneg_left (Int.le_of_lt z) h0
      have b := Int.mul_lt_mul_of_pos_right z (show 0 < rootZ n by omega)
      omega
    omega
  · exact z
theorem gap_nn {far near : Int} (h : 0 ≤ near) : 0 ≤ gapZ far near := by
  unfold gapZ
  split
  · exact Int.le_refl 0
  · rename_i h1
    have hf : 0 ≤ far := by omega
    have e : 4 * far * near = 4 * (far * near) := Int.mul_assoc _ _ _
    have p := Int.mul_nonneg hf h
    have : rootZ (4 * far * near) ≤ far + near := by
      refine root_le (by omega) (by omega) ?_
      have s := sq_nn (far - near)
      have e2 : (far + near) * (far + near) = (far - near) * (far - near) + 4 * (far * near) := by
        simp only [Int.add_mul, Int.sub_mul, Int.mul_add, Int.mul_sub, Int.mul_comm near far]; omega
      omega
    omega
theorem gap_safe {a b c : List Int} {far near : Int} (e1 : a.length = b.length) (e2 : b.length = c.length) (h1 : far ≤ distZ a b) (h2 : distZ b c ≤ near) : gapZ far near ≤ distZ a c := by
  have hC := distZ_nn a c
  have hB := distZ_nn b c
  unfold gapZ
  split
  · exact hC
  · rename_i h3
    obtain ⟨x, y, e0, eA, eB, eC⟩ := dist3 a b c e1 e2
    have cs := cauchy e0
    have e : 4 * far * near = 4 * (far * near) := Int.mul_assoc _ _ _
    have p := Int.mul_nonneg (show 0 ≤ far by omega) (show 0 ≤ near by omega)
    rcases Int.lt_or_le 0 (far + near - distZ a c) with t | t
    · have g := gap_core (A := distZ a b) (B := distZ b c) hC hB (by
        rw [eA, eB, eC]
        generalize innerZ x x = A at *
        generalize innerZ y y = B at *
        generalize innerZ x y = S at *
        rw [show A + B + 2 * S - A - B = 2 * S by omega]
        have : 2 * S * (2 * S) = 4 * (S * S) := by rw [Int.mul_assoc, Int.mul_left_comm S 2 S, ← Int.mul_assoc]; rfl
        omega) h1 h2 (by omega) t
      have := le_root (t := far + near - distZ a c) (n := 4 * far * near) (by omega) (by omega)
      omega
    · have := rootZ_nn (4 * far * near)
      omega

abbrev N_split : List Str := ["d", "e", "f"]
-- split(d, e, f): slots 0:d 1:e 2:f
def T_split (K : PySem.W.Frag) : TS :=
    (tSeq (tIfS (tOr (tTest (tOp uGe (tVar 1) (tVar 0))) (tTest (tOp (uEq K) (tVar 2) (tC (.int 0))))) (tRet (tC (.int 0))) tNext)
    (tRet (tUn uNeg (tOp uDiv (tUn uNeg (tOp uMul (tOp uSub (tVar 0) (tVar 1)) (tOp uSub (tVar 0) (tVar 1)))) (tOp uMul (tC (.int 4)) (tVar 2))))))

/-! ### the split -/
def splitZ (d e f : Int) : Int := if d ≤ e ∨ f = 0 then 0 else -(-((d - e) * (d - e)) / (4 * f))
def Mid (a : Int) : Prop := a.natAbs < 2 ^ 2000
theorem Mid.of {a : Int} {b : Nat} (h : a.natAbs < 2 ^ b) (hb : b ≤ 2000) : Mid a := Nat.lt_of_lt_of_le h (pow_le_pow hb)
theorem mid_n {n : Int} (h0 : -1000000000000000000 < n) (h : n < 1000000000000000000) : Mid n := by
  refine Mid.of (b := 64) ?_ (by decide)
  omega
theorem Mid.sub {a b : Int} (ha : Mid a) (hb : Mid b) : (a - b).natAbs < 2 ^ 2001 := by
  have e : (2 : Nat) ^ 2001 = 2 ^ 2000 + 2 ^ 2000 := by rw [show (2001 : Nat) = 2000 + 1 from rfl, Nat.pow_succ, Nat.mul_two]
  rw [e]
  unfold Mid at ha hb
  generalize (2 : Nat) ^ 2000 = M at *
  omega
theorem Mid.subsq {a b : Int} (ha : Mid a) (hb : Mid b) : MulOk (a - b) (a - b) := .inr (wide_mul (ha.sub hb) (ha.sub hb) (by decide) (by decide) (by decide))
theorem Mid.div4 {a f : Int} (hf : Mid f) (h : 0 < f) : CDivW a (4 * f) := by
  refine wide_div (b := 2003) (by omega) ?_ (by decide) (by decide)
  rw [Int.natAbs_mul, show (2003 : Nat) = 3 + 2000 from rfl, Nat.pow_add]
  exact Nat.mul_lt_mul'' (by decide) hf
def sp_split (K : PySem.W.Frag) : Sp := fun vs H Q _ => ∃ d e f : Int, vs = [.int d, .int e, .int f] ∧ Mid d ∧ Mid e ∧ Mid f ∧ 0 ≤ f ∧ Q (.int (splitZ d e f)) H
theorem r_split {K : PySem.W.Frag} {d e f : Int} {H : Hp} {D : Ends} (h1 : Mid d) (h2 : Mid e) (h3 : Mid f) (h4 : 0 ≤ f) (q : D.rt (.int (splitZ d e f)) H) : T_split K D [some (.int d), some (.int e), some (.int f)] H := by
  unfold T_split
  walk_at "zz"
  by_cases c1 : d ≤ e
  · rw [show splitZ d e f = 0 from if_pos (.inl c1)] at q
    refine z_iteT' (decide_eq_true c1) ?_
    walk_at "zz"
    exact q
  · refine z_iteF' (decide_eq_false c1) ?_
    walk_at "zz"
    refine z_itD (fun c => ?_) (fun c => ?_)
    · rw [show splitZ d e f = 0 from if_pos (.inr c)] at q
      walk_at "zz"
      exact q
    · rw [show splitZ d e f = -(-((d - e) * (d - e)) / (4 * f)) from if_neg (fun z => z.elim c1 c)] at q
      walk_at "zz"
      refine z_mul (h1.subsq h2) ?_
      walk_at "zz"
      refine z_div (h3.div4 (by omega)) ?_
      walk_at "zz"
      exact q
theorem w_split {K : PySem.W.Frag} : Wd (T_split K) N_split 3 (sp_split K) := fun vs H Q E h => by
  obtain ⟨d, e, f, rfl, h1, h2, h3, h4, q⟩ := h
  exact ⟨rfl, r_split h1 h2 h3 h4 q⟩
theorem ceil_of {X k c : Int} (hk : 0 < k) (h1 : X ≤ c * k) (h2 : (c - 1) * k < X) : -(-X / k) = c := by
  have e : -X / k = -c := by
    refine Int.le_antisymm ?_ ?_
    · refine Int.le_of_lt_add_one (Int.ediv_lt_of_lt_mul hk ?_)
      rw [show -c + 1 = -(c - 1) by omega, Int.neg_mul]; omega
    · refine Int.le_ediv_of_mul_le hk ?_
      rw [Int.neg_mul]; omega
  rw [e]; omega
theorem ceil_le {X k c : Int} (hk : 0 < k) (h : X ≤ c * k) : -(-X / k) ≤ c := by
  have : -c ≤ -X / k := Int.le_ediv_of_mul_le hk (by rw [Int.neg_mul]; omega)
  omega
/-- a query, two centres, a point -/
theorem dist4 : ∀ (p q c d : List Int), p.length = q.length → q.length = c.length → c.length = d.length → ∃ x w : List Int, x.length = w.length ∧ distZ p q = innerZ x x ∧ distZ c d = innerZ w w ∧ distZ p c - distZ p d = distZ q c - distZ q d + 2 * innerZ x w
  | [], [], [], [], _, _, _ => ⟨[], [], rfl, rfl, rfl, rfl⟩
  | p0 :: p, q0 :: q, c0 :: c, d0 :: d, h1, h2, h3 => by
    obtain ⟨x, w, e0, e1, e2, e3⟩ := dist4 p q c d (by simpa using h1) (by simpa using h2) (by simpa using h3)
    refine ⟨(p0 - q0) :: x, (d0 - c0) :: w, by simp [e0], ?_, ?_, ?_⟩
    · show _ + _ = _ + _; rw [e1]
    · show (c0 - d0) * (c0 - d0) + _ = (d0 - c0) * (d0 - c0) + _; rw [e2, show c0 - d0 = -(d0 - c0) by omega, Int.neg_mul_neg]
    · show ((p0 - c0) * (p0 - c0) + distZ p c) - ((p0 - d0) * (p0 - d0) + distZ p d) = ((q0 - c0) * (q0 - c0) + distZ q c) - ((q0 - d0) * (q0 - d0) + distZ q d) + 2 * ((p0 - q0) * (d0 - c0) + innerZ x w)
      have : (p0 - c0) * (p0 - c0) - (p0 - d0) * (p0 - d0) = (q0 - c0) * (q0 - c0) - (q0 - d0) * (q0 - d0) + 2 * ((p0 - q0) * (d0 - c0)) := by
        simp only [Int.sub_mul, Int.mul_sub, Int.mul_comm c0 p0, Int.mul_comm d0 p0, Int.mul_comm c0 q0, Int.mul_comm d0 q0]; omega
      omega
  | [], [], [], _ :: _, _, _, h => by cases h
  | [], [], _ :: _, _, _, h, _ => by cases h
  | [], _ :: _, _, _, h, _, _ => by cases h
  | _ :: _, [], _, _, h, _, _ => by cases h
  | _ :: _, _ :: _, [], _, _, h, _ => by cases h
  | _ :: _, _ :: _, _ :: _, [], _, _, h => by cases h
theorem split_safe {p q c d : List Int} (h1 : p.length = q.length) (h2 : q.length = c.length) (h3 : c.length = d.length) (h : distZ p c ≤ distZ p d) : splitZ (distZ q c) (distZ q d) (distZ c d) ≤ distZ p q := by
  have hn := distZ_nn p q
  unfold splitZ
  split
  · exact hn
  · rename_i g
    have g1 : ¬ distZ q c ≤ distZ q d := fun z => g (.inl z)
    have g2 : ¬ distZ c d = 0 := fun z => g (.inr z)
    have g3 := distZ_nn c d
    obtain ⟨x, w, e0, e1, e2, e3⟩ := dist4 p q c d h1 h2 h3
    have cs := cauchy e0
    refine ceil_le (by omega) ?_
    rw [e1, e2]
    generalize innerZ x x = A at *
    generalize innerZ w w = B at *
    generalize innerZ x w = S at *
    generalize distZ q c = d1 at *
    generalize distZ q d = d2 at *
    have t : d1 - d2 ≤ -(2 * S) := by omega
    have s := Int.mul_le_mul t t (by omega) (by omega)
    have : -(2 * S) * -(2 * S) = 4 * (S * S) := by rw [Int.neg_mul_neg, Int.mul_assoc, Int.mul_left_comm S 2 S, ← Int.mul_assoc]; rfl
    have e : A * (4 * B) = 4 * (A * B) := Int.mul_left_comm _ _ _
    omega

abbrev N_law_root : List Str := ["_law_number", "_law_low", "_law_high", "_law_k", "_law_middle"]
-- _law_root(_law_number_here): slots 0:_law_number_here 1:_law_low 2:_law_high 3:_law_k 4:_law_middle
def T_law_root_b1 (K : PySem.W.Frag) : TS :=
    (tSeq (tIfS (tTest (tOp uGt (tOp uMul (tVar 2) (tVar 2)) (tVar 0))) tBreak tNext)
    (tAsg (tOp uMul (tVar 2) (tC (.int 2))) (gName 2)))
def T_law_root_b2 (K : PySem.W.Frag) : TS :=
    (tSeq (tIfS (tTest (tOp uLe (tOp uSub (tVar 2) (tVar 1)) (tC (.int 1)))) tBreak tNext)
    (tSeq (tAsg (tOp uDiv (tOp (uAdd K) (tVar 1) (tVar 2)) (tC (.int 2))) (gName 4))
    (tIfS (tTest (tOp uLe (tOp uMul (tVar 4) (tVar 4)) (tVar 0))) (tAsg (tVar 4) (gName 1)) (tAsg (tVar 4) (gName 2)))))
def T_law_root (K : PySem.W.Frag) : TS :=
    (tSeq (tAsg (tC (.int 0)) (gName 1))
    (tSeq (tAsg (tC (.int 1)) (gName 2))
    (tCut (tFor (iRng1 (tCons (tC (.int 400)) tNil)) (gName 3) (T_law_root_b1 K))
    (tCut (tFor (iRng1 (tCons (tC (.int 400)) tNil)) (gName 3) (T_law_root_b2 K))
    (tRet (tVar 1))))))

theorem rt_half {k : Nat} (h : k < 400) : (2 : Int) ^ (400 - k) = 2 * 2 ^ (400 - (k + 1)) := by
  rw [show 400 - k = (400 - (k + 1)) + 1 by omega, Int.pow_succ, Int.mul_comm]
def sp_law_root (K : PySem.W.Frag) : Sp := fun vs H Q _ => ∃ n : Int, vs = [.int n] ∧ 0 ≤ n ∧ n < 2 ^ 800 ∧ Q (.int (rootZ n)) H
theorem r_law_root {K : PySem.W.Frag} {n : Int} {H : Hp} {D : Ends} (h0 : 0 ≤ n) (hn : n < 2 ^ 800) (k : D.rt (.int (rootZ n)) H) : T_law_root K D [some (.int n), none, none, none, none] H := by
  unfold T_law_root
  have ph : ∀ j : Nat, (0 : Int) < 2 ^ j := fun j => Int.pow_pos (by decide)
  have e800 : (2 : Int) ^ 800 = 2 ^ 400 * 2 ^ 400 := by rw [← Int.pow_add]
  have e802 : (2 : Int) ^ 802 = 2 ^ 800 * 4 := by rw [show (802 : Nat) = 800 + 2 from rfl, Int.pow_add]; rfl
  have mk : ∀ h : Int, 0 ≤ h → h * h ≤ 4 * n ∨ h = 1 → MulOk h h := fun h z1 z2 => by
    refine mul_sq (n := h * h) (b := 802) z1 (Int.le_refl _) ?_ (by decide)
    rw [e802]
    have := ph 800
    generalize (2 : Int) ^ 800 = M at *
    rcases z2 with z | z
    · omega
    · rw [z]; omega
  walk_at "zz"
  refine z_cut (fun σ H' => H = H' ∧ ∃ (h : Int) (v : Option V), σ = [some (.int n), some (.int 0), some (.int h), v, none] ∧ 0 < h ∧ h ≤ 2 ^ 400 ∧ n < h * h ∧ (h * h ≤ 4 * n ∨ h = 1)) ?_ ?_
  · walk_at "zz"
    refine z_rng1 (by decide) ?_ (by decide)
    refine z_rng (fun i σ H' => H = H' ∧ ∃ (h : Int) (v : Option V), i ≤ 400 ∧ σ = [some (.int n), some (.int 0), some (.int h), v, none] ∧ h = 2 ^ i ∧ (h * h ≤ 4 * n ∨ h = 1)) ⟨rfl, 1, none, by decide, rfl, rfl, .inr rfl⟩ ?_ ?_
    · rintro i σ H' hi ⟨rfl, h, v, hi', rfl, eh, h2⟩
      have h1 : 0 < h := by rw [eh]; exact ph i
      have hi2 : i < 400 := hi
      unfold T_law_root_b1
      walk_at "zz"
      refine z_mul (mk h (by omega) h2) ?_
      walk_at "zz"
      refine z_itD (fun c => ?_) (fun c => ?_)
      · walk_at "zz"
        refine ⟨rfl, h, _, rfl, h1, ?_, c, h2⟩
        have e : (2 : Int) ^ 400 = 2 ^ i * 2 ^ (400 - i) := by rw [← Int.pow_add]; congr 1; omega
        have z := Int.mul_le_mul_of_nonneg_left (show (1 : Int) ≤ 2 ^ (400 - i) from ph (400 - i)) (show 0 ≤ h by omega)
        rw [e, ← eh]
        generalize (2 : Int) ^ (400 - i) = w at *
        generalize h * w = hw at *
        omega
      · walk_at "zz"
        refine ⟨rfl, h * 2, _, by omega, rfl, by rw [Int.pow_succ, eh], .inl ?_⟩
        have : h * 2 * (h * 2) = 4 * (h * h) := by
          rw [Int.mul_assoc, Int.mul_left_comm 2 h 2, ← Int.mul_assoc, Int.mul_comm (h * h)]; rfl
        omega
    · rintro σ H' ⟨rfl, h, v, hi', rfl, eh, h2⟩
      have eh : h = 2 ^ 400 := eh
      have h1 : 0 < h := by rw [eh]; exact ph _
      exact ⟨rfl, h, v, rfl, h1, by rw [eh]; exact Int.le_refl _, by rw [eh, ← e800]; exact hn, h2⟩
  rintro σ H' ⟨rfl, h, v, rfl, h1, h400, hh, h2⟩
  walk_at "zz"
  refine z_cut (fun σ H' => H = H' ∧ ∃ (lo hi : Int) (v w : Option V), σ = [some (.int n), some (.int lo), some (.int hi), v, w] ∧ 0 ≤ lo ∧ lo * lo ≤ n ∧ n < (lo + 1) * (lo + 1)) ?_ ?_
  · walk_at "zz"
    refine z_rng1 (by decide) ?_ (by decide)
    refine z_rng (fun i σ H' => H = H' ∧ ∃ (lo hi : Int) (v w : Option V), i ≤ 400 ∧ σ = [some (.int n), some (.int lo), some (.int hi), v, w] ∧ 0 ≤ lo ∧ lo < hi ∧ hi ≤ h ∧ lo * lo ≤ n ∧ n < hi * hi ∧ hi - lo ≤ 2 ^ (400 - i)) ⟨rfl, 0, h, _, _, by decide, rfl, by decide, h1, Int.le_refl _, h0, hh, by simpa using h400⟩ ?_ ?_
    · rintro i σ H' hi ⟨rfl, lo, hi, v, w, hi', rfl, g1, g2, g3, g4, g5, g6⟩
      have hi2 : i < 400 := by assumption
      unfold T_law_root_b2
      walk_at "zz"
      refine z_itD (fun c => ?_) (fun c => ?_)
      · walk_at "zz"
        have e : hi = lo + 1 := by omega
        subst e
        exact ⟨rfl, lo, _, _, _, rfl, g1, g4, g5⟩
      · walk_at "zz"
        have pe := rt_half hi2
        have p0 := ph (400 - (i + 1))
        generalize (2 : Int) ^ (400 - i) = P at *
        generalize (2 : Int) ^ (400 - (i + 1)) = P2 at *
        have e1 : lo < (lo + hi) / 2 := by omega
        have e2 : (lo + hi) / 2 < hi := by omega
        have e3 : (lo + hi) / 2 - lo ≤ P2 := by omega
        have e4 : hi - (lo + hi) / 2 ≤ P2 := by omega
        generalize (lo + hi) / 2 = md at *
        have hm : md * md ≤ h * h := Int.mul_le_mul (by omega) (by omega) (by omega) (by omega)
        refine z_mul (mk md (by omega) ?_) ?_
        · rcases h2 with h2 | h2
          · left; omega
          · exfalso; omega
        walk_at "zz"
        refine z_itD (fun c => ?_) (fun c => ?_)
        · walk_at "zz"
          exact ⟨rfl, md, hi, _, _, by omega, rfl, by omega, e2, g3, c, g5, e4⟩
        · walk_at "zz"
          exact ⟨rfl, lo, md, _, _, by omega, rfl, g1, e1, by omega, g4, by omega, e3⟩
    · rintro σ H' ⟨rfl, lo, hi, v, w, hi', rfl, g1, g2, g3, g4, g5, g6⟩
      have g6 : hi - lo ≤ 1 := g6
      have e : hi = lo + 1 := by omega
      subst e
      exact ⟨rfl, lo, _, _, _, rfl, g1, g4, g5⟩
  rintro σ H' ⟨rfl, lo, hi, v, w, rfl, g1, g2, g3⟩
  walk_at "zz"
  rw [← rootZ_uniq g1 g2 g3] at k
  exact k
theorem w_law_root {K : PySem.W.Frag} : Wd (T_law_root K) N_law_root 1 (sp_law_root K) := fun vs H Q E h => by
  obtain ⟨n, rfl, h0, h1, k⟩ := h
  exact ⟨rfl, r_law_root h0 h1 k⟩

local macro_rules | `(tactic| walk_at "pu") => `(tactic| (with_reducible first | refine p_istr ?_ | refine p_cstT ?_ | refine p_kout ?_ | refine p_kin ?_ | refine p_kst ?_ | refine p_ord ?_ | refine p_izip2 ?_ | refine p_izip3 ?_ | (refine p_zip2 (by first | exact seqL | exact seqT | assumption) (by first | exact seqL | exact seqT | assumption) ?_) | (refine p_zip3 (by first | exact seqL | exact seqT | assumption) (by first | exact seqL | exact seqT | assumption) (by first | exact seqL | exact seqT | assumption) ?_) | (refine p_lenS (by omega) ?_)))
local macro_rules | `(tactic| walk_at "pv") => `(tactic| repeat (first | walk_at "p1" | walk_at "pu"))
local macro_rules | `(tactic| walk_at "pw") => `(tactic| repeat (first | walk_at "p1" | walk_at "pu" | walk_at "pd"))

/-! numbers and vectors of the program, as data -/
def VM : Int := 100000000000000000
theorem zip_ints {a b : List Int} {i : Nat} {x : Da} (h : (zipD (iD a) (iD b))[i]? = some x) : i < a.length ∧ i < b.length ∧ x = .tup [.int (a.getD i 0), .int (b.getD i 0)] := by
  obtain ⟨u, v, hu, hv, rfl⟩ := zipD_get h
  rw [List.getElem?_map] at hu hv
  cases e1 : a[i]? with
  | none => rw [e1] at hu; cases hu
  | some t =>
  cases e2 : b[i]? with
  | none => rw [e2] at hv; cases hv
  | some y =>
  rw [e1] at hu; rw [e2] at hv
  cases hu; cases hv
  refine ⟨(List.getElem?_eq_some_iff.mp e1).1, (List.getElem?_eq_some_iff.mp e2).1, ?_⟩
  rw [List.getD_eq_getElem?_getD, List.getD_eq_getElem?_getD, e1, e2]; rfl
/-! from the heap's promises -/
def ps_root : PSp := fun ds Q _ => ∃ n : Int, ds = [.int n] ∧ n < 2 ^ 100000 ∧ Q (.int (rootZ n))
theorem b_root {K : PySem.W.Frag} {c : CEnv} : SpSim K c (sp_root K) ps_root := by
  rintro S O H vs ds Q E Q' E' oc dr r ⟨n, rfl, h, q⟩ k _
  obtain ⟨v, rfl, a⟩ := rps1 r
  obtain rfl := rpI a
  exact ⟨n, rfl, h, k _ _ H (Ex.of (Same.refl H) fun st L e => (dr st L e).1) (.int _) q⟩
def ps_law_root : PSp := fun ds Q _ => ∃ n : Int, ds = [.int n] ∧ 0 ≤ n ∧ n < 2 ^ 800 ∧ Q (.int (rootZ n))
theorem b_law_root {K : PySem.W.Frag} {c : CEnv} : SpSim K c (sp_law_root K) ps_law_root := by
  rintro S O H vs ds Q E Q' E' oc dr r ⟨n, rfl, h0, h, q⟩ k _
  obtain ⟨v, rfl, a⟩ := rps1 r
  obtain rfl := rpI a
  exact ⟨n, rfl, h0, h, k _ _ H (Ex.of (Same.refl H) fun st L e => (dr st L e).1) (.int _) q⟩
def ps_gap : PSp := fun ds Q _ => ∃ a b : Int, ds = [.int a, .int b] ∧ Short a ∧ Short b ∧ Q (.int (gapZ a b))
theorem b_gap {K : PySem.W.Frag} {c : CEnv} : SpSim K c (sp_gap K) ps_gap := by
  rintro S O H vs ds Q E Q' E' oc dr r ⟨n, m, rfl, h0, h, q⟩ k _
  obtain ⟨v, u, rfl, a, b⟩ := rps2 r
  obtain rfl := rpI a
  obtain rfl := rpI b
  exact ⟨n, m, rfl, h0, h, k _ _ H (Ex.of (Same.refl H) fun st L e => (dr st L e).1) (.int _) q⟩
theorem proot_c {n : Int} {Q : Da → Prop} {E : Str → Prop} (h : n < 2 ^ 100000) (k : Q (.int (rootZ n))) : ps_root [.int n] Q E := ⟨n, rfl, h, k⟩
theorem vm_mul {x y : Int} (h1 : -VM ≤ x ∧ x ≤ VM) : MulOk x y := by unfold VM at h1; walk_at "mulok"
/-! inner -/
def ps_inner : PSp := fun ds Q _ => ∃ (u v : Da) (a b : List Int), ds = [u, v] ∧ seqD u (iD a) ∧ seqD v (iD b) ∧ a.length = b.length ∧ Bd VM a ∧ Bd VM b ∧ Q (.int (innerZ a b))
def sp_inner (K : PySem.W.Frag) (c : CEnv) : Sp := lift K c ps_inner
theorem b_inner {K : PySem.W.Frag} {c : CEnv} : SpSim K c (sp_inner K c) ps_inner := spSim_lift
abbrev N_inner : List Str := ["a", "b", "total", "x", "y"]
-- inner(a, b): slots 0:a 1:b 2:total 3:x 4:y
def T_inner_b1 (K : PySem.W.Frag) : TS :=
    (tAsg (tOp (uAdd K) (tVar 2) (tOp uMul (tVar 3) (tVar 4))) (gName 2))
def T_inner (K : PySem.W.Frag) : TS :=
    (tSeq (tAsg (tC (.int 0)) (gName 2))
    (tSeq (tFor (iZip2 K (tCons (tVar 0) (tCons (tVar 1) tNil))) (gTup K 2 (gCons (gName 3) (gCons (gName 4) gNil))) (T_inner_b1 K))
    (tRet (tVar 2))))
def P_inner_b1 : PSt :=
    (pAsg (pOp pAdd (pVar 2) (pOp pMul (pVar 3) (pVar 4))) (pgName 2))
def P_inner : PSt :=
    (pSeq (pAsg (pC (.int 0)) (pgName 2))
    (pSeq (pFor (piZip2 (pCons (pVar 0) (pCons (pVar 1) pNil))) (pgTup 2 (pgCons (pgName 3) (pgCons (pgName 4) pgNil))) P_inner_b1)
    (pRet (pVar 2))))
theorem S_inner {K : PySem.W.Frag} {c : CEnv} : SimS ⟨K, c, W0, fun _ _ => False⟩ (T_inner K) (P_inner) := by
  unfold T_inner P_inner T_inner_b1 P_inner_b1
  exact (sim_seq (sim_asg (sim_int _) (sim_gName 2))
    (sim_seq (sim_for (sim_iZip2 (sim_cons (sim_var 0) (sim_cons (sim_var 1) sim_nil))) (sim_gTup (sim_gCons (sim_gName 3) (sim_gCons (sim_gName 4) sim_gNil))) (sim_asg (sim_op sim_add (sim_var 2) (sim_op sim_mul (sim_var 3) (sim_var 4))) (sim_gName 2)))
    (sim_ret (sim_var 2))))

theorem q_inner : ∀ ds Q E, ps_inner ds Q E → ds.length = 2 ∧ P_inner { nx := fun _ => Q .non, rt := Q } (startP 5 ds) := by
  rintro _ Q E ⟨u, v, a, b, rfl, su, sv, hl, b1, b2, q⟩
  refine ⟨rfl, ?_⟩
  show P_inner _ [some (.d u), some (.d v), none, none, none]
  unfold P_inner
  walk_at "pv"
  refine p_loop (fun i ρ => ∃ x3 x4, ρ = [some (.d u), some (.d v), some (.d (.int (innerZ (a.take i) (b.take i)))), x3, x4]) ?_ ?_ ?_
  · exact ⟨none, none, by simp [innerZ]⟩
  · rintro i x ρ' hx ⟨x3, x4, rfl⟩
    obtain ⟨l1, l2, rfl⟩ := zip_ints hx
    have u1 := b1.at l1
    have u2 := b2.at l2
    unfold P_inner_b1
    walk_at "pv"
    refine p_mul (vm_mul u1) ?_
    walk_at "pv"
    rw [← innerZ_take hl l1]
    exact ⟨_, _, rfl⟩
  · rintro ρ' ⟨x3, x4, rfl⟩
    rw [zipD_len, List.length_map, List.length_map, hl, Nat.min_self, List.take_length, ← hl, List.take_length]
    walk_at "pv"
    exact q
theorem w_inner {K : PySem.W.Frag} {c : CEnv} : Wd (T_inner K) N_inner 2 (sp_inner K c) := wd_lift S_inner q_inner
/-! distance -/
def ps_distance : PSp := fun ds Q _ => ∃ (u v : Da) (a b : List Int), ds = [u, v] ∧ seqD u (iD a) ∧ seqD v (iD b) ∧ a.length = b.length ∧ Bd VM a ∧ Bd VM b ∧ Q (.int (distZ a b))
def sp_distance (K : PySem.W.Frag) (c : CEnv) : Sp := lift K c ps_distance
theorem b_distance {K : PySem.W.Frag} {c : CEnv} : SpSim K c (sp_distance K c) ps_distance := spSim_lift
abbrev N_distance : List Str := ["a", "b", "total", "x", "y"]
-- distance(a, b): slots 0:a 1:b 2:total 3:x 4:y
def T_distance_b1 (K : PySem.W.Frag) : TS :=
    (tAsg (tOp (uAdd K) (tVar 2) (tOp uMul (tOp uSub (tVar 3) (tVar 4)) (tOp uSub (tVar 3) (tVar 4)))) (gName 2))
def T_distance (K : PySem.W.Frag) : TS :=
    (tSeq (tAsg (tC (.int 0)) (gName 2))
    (tSeq (tFor (iZip2 K (tCons (tVar 0) (tCons (tVar 1) tNil))) (gTup K 2 (gCons (gName 3) (gCons (gName 4) gNil))) (T_distance_b1 K))
    (tRet (tVar 2))))
def P_distance_b1 : PSt :=
    (pAsg (pOp pAdd (pVar 2) (pOp pMul (pOp pSub (pVar 3) (pVar 4)) (pOp pSub (pVar 3) (pVar 4)))) (pgName 2))
def P_distance : PSt :=
    (pSeq (pAsg (pC (.int 0)) (pgName 2))
    (pSeq (pFor (piZip2 (pCons (pVar 0) (pCons (pVar 1) pNil))) (pgTup 2 (pgCons (pgName 3) (pgCons (pgName 4) pgNil))) P_distance_b1)
    (pRet (pVar 2))))
theorem S_distance {K : PySem.W.Frag} {c : CEnv} : SimS ⟨K, c, W0, fun _ _ => False⟩ (T_distance K) (P_distance) := by
  unfold T_distance P_distance T_distance_b1 P_distance_b1
  exact (sim_seq (sim_asg (sim_int _) (sim_gName 2))
    (sim_seq (sim_for (sim_iZip2 (sim_cons (sim_var 0) (sim_cons (sim_var 1) sim_nil))) (sim_gTup (sim_gCons (sim_gName 3) (sim_gCons (sim_gName 4) sim_gNil))) (sim_asg (sim_op sim_add (sim_var 2) (sim_op sim_mul (sim_op sim_sub (sim_var 3) (sim_var 4)) (sim_op sim_sub (sim_var 3) (sim_var 4)))) (sim_gName 2)))
    (sim_ret (sim_var 2))))

theorem q_distance : ∀ ds Q E, ps_distance ds Q E → ds.length = 2 ∧ P_distance { nx := fun _ => Q .non, rt := Q } (startP 5 ds) := by
  rintro _ Q E ⟨u, v, a, b, rfl, su, sv, hl, b1, b2, q⟩
  refine ⟨rfl, ?_⟩
  show P_distance _ [some (.d u), some (.d v), none, none, none]
  unfold P_distance
  walk_at "pv"
  refine p_loop (fun i ρ => ∃ x3 x4, ρ = [some (.d u), some (.d v), some (.d (.int (distZ (a.take i) (b.take i)))), x3, x4]) ?_ ?_ ?_
  · exact ⟨none, none, by simp [distZ]⟩
  · rintro i x ρ' hx ⟨x3, x4, rfl⟩
    obtain ⟨l1, l2, rfl⟩ := zip_ints hx
    have u1 := b1.at l1
    have u2 := b2.at l2
    unfold P_distance_b1
    walk_at "pv"
    refine p_mul (by unfold VM at *; walk_at "mulok") ?_
    walk_at "pv"
    rw [← distZ_take hl l1]
    exact ⟨_, _, rfl⟩
  · rintro ρ' ⟨x3, x4, rfl⟩
    rw [zipD_len, List.length_map, List.length_map, hl, Nat.min_self, List.take_length, ← hl, List.take_length]
    walk_at "pv"
    exact q
theorem w_distance {K : PySem.W.Frag} {c : CEnv} : Wd (T_distance K) N_distance 2 (sp_distance K c) := wd_lift S_distance q_distance
/-! differing -/
def ps_differing : PSp := fun ds Q _ => ∃ (u v : Da) (a b : List Int), ds = [u, v] ∧ seqD u (iD a) ∧ seqD v (iD b) ∧ a.length = b.length ∧ Bd VM a ∧ Bd VM b ∧ Q (.int (diffZ a b))
def sp_differing (K : PySem.W.Frag) (c : CEnv) : Sp := lift K c ps_differing
theorem b_differing {K : PySem.W.Frag} {c : CEnv} : SpSim K c (sp_differing K c) ps_differing := spSim_lift
abbrev N_differing : List Str := ["a", "b", "total", "x", "y"]
-- differing(a, b): slots 0:a 1:b 2:total 3:x 4:y
def T_differing_b1 (K : PySem.W.Frag) : TS :=
    (tIfS (tTest (tOp (uNe K) (tVar 3) (tVar 4))) (tAsg (tOp (uAdd K) (tVar 2) (tC (.int 1))) (gName 2)) tNext)
def T_differing (K : PySem.W.Frag) : TS :=
    (tSeq (tAsg (tC (.int 0)) (gName 2))
    (tSeq (tFor (iZip2 K (tCons (tVar 0) (tCons (tVar 1) tNil))) (gTup K 2 (gCons (gName 3) (gCons (gName 4) gNil))) (T_differing_b1 K))
    (tRet (tVar 2))))
def P_differing_b1 : PSt :=
    (pIfS (pTest (pOp pNe (pVar 3) (pVar 4))) (pAsg (pOp pAdd (pVar 2) (pC (.int 1))) (pgName 2)) pNext)
def P_differing : PSt :=
    (pSeq (pAsg (pC (.int 0)) (pgName 2))
    (pSeq (pFor (piZip2 (pCons (pVar 0) (pCons (pVar 1) pNil))) (pgTup 2 (pgCons (pgName 3) (pgCons (pgName 4) pgNil))) P_differing_b1)
    (pRet (pVar 2))))
theorem S_differing {K : PySem.W.Frag} {c : CEnv} : SimS ⟨K, c, W0, fun _ _ => False⟩ (T_differing K) (P_differing) := by
  unfold T_differing P_differing T_differing_b1 P_differing_b1
  exact (sim_seq (sim_asg (sim_int _) (sim_gName 2))
    (sim_seq (sim_for (sim_iZip2 (sim_cons (sim_var 0) (sim_cons (sim_var 1) sim_nil))) (sim_gTup (sim_gCons (sim_gName 3) (sim_gCons (sim_gName 4) sim_gNil))) (sim_ifS (sim_test (sim_op sim_ne (sim_var 3) (sim_var 4))) (sim_asg (sim_op sim_add (sim_var 2) (sim_int _)) (sim_gName 2)) sim_next))
    (sim_ret (sim_var 2))))

theorem q_differing : ∀ ds Q E, ps_differing ds Q E → ds.length = 2 ∧ P_differing { nx := fun _ => Q .non, rt := Q } (startP 5 ds) := by
  rintro _ Q E ⟨u, v, a, b, rfl, su, sv, hl, b1, b2, q⟩
  refine ⟨rfl, ?_⟩
  show P_differing _ [some (.d u), some (.d v), none, none, none]
  unfold P_differing
  walk_at "pv"
  refine p_loop (fun i ρ => ∃ x3 x4, ρ = [some (.d u), some (.d v), some (.d (.int (diffZ (a.take i) (b.take i)))), x3, x4]) ?_ ?_ ?_
  · exact ⟨none, none, by simp [diffZ]⟩
  · rintro i x ρ' hx ⟨x3, x4, rfl⟩
    obtain ⟨l1, l2, rfl⟩ := zip_ints hx
    have u1 := b1.at l1
    have u2 := b2.at l2
    unfold P_differing_b1
    walk_at "pv"
    cases c1 : decide (a.getD i 0 = b.getD i 0) with
    | true =>
      walk_at "pv"
      refine z_iteF' (by simp) ?_
      walk_at "pv"
      have := of_decide_eq_true c1
      rw [diffZ_take hl l1, if_pos this, Int.add_zero]
      exact ⟨_, _, rfl⟩
    | false =>
      refine z_iteT' (by simp) ?_
      walk_at "pv"
      have := of_decide_eq_false c1
      rw [diffZ_take hl l1, if_neg this]
      exact ⟨_, _, rfl⟩
  · rintro ρ' ⟨x3, x4, rfl⟩
    rw [zipD_len, List.length_map, List.length_map, hl, Nat.min_self, List.take_length, ← hl, List.take_length]
    walk_at "pv"
    exact q
theorem w_differing {K : PySem.W.Frag} {c : CEnv} : Wd (T_differing K) N_differing 2 (sp_differing K c) := wd_lift S_differing q_differing
/-! norm -/
def ps_norm : PSp := fun ds Q _ => ∃ (u : Da) (a : List Int), ds = [u] ∧ seqD u (iD a) ∧ Bd VM a ∧ Q (.int (innerZ a a))
def sp_norm (K : PySem.W.Frag) (c : CEnv) : Sp := lift K c ps_norm
theorem b_norm {K : PySem.W.Frag} {c : CEnv} : SpSim K c (sp_norm K c) ps_norm := spSim_lift
abbrev N_norm : List Str := ["a"]
-- norm(a): slots 0:a
def T_norm (K : PySem.W.Frag) (c : CEnv) : TS :=
    (tRet (tCal (sp_inner K c) (tCons (tVar 0) (tCons (tVar 0) tNil))))
def P_norm : PSt :=
    (pRet (pCal ps_inner (pCons (pVar 0) (pCons (pVar 0) pNil))))
theorem S_norm {K : PySem.W.Frag} {c : CEnv} : SimS ⟨K, c, W0, fun _ _ => False⟩ (T_norm K c) (P_norm) := by
  unfold T_norm P_norm
  exact (sim_ret (sim_cal b_inner (sim_cons (sim_var 0) (sim_cons (sim_var 0) sim_nil))))

theorem q_norm : ∀ ds Q E, ps_norm ds Q E → ds.length = 1 ∧ P_norm { nx := fun _ => Q .non, rt := Q } (startP 1 ds) := by
  rintro _ Q E ⟨u, a, rfl, su, b1, q⟩
  refine ⟨rfl, ?_⟩
  show P_norm _ [some (.d u)]
  unfold P_norm
  walk_at "pv"
  exact ⟨u, u, a, a, rfl, su, su, rfl, b1, b1, q⟩
theorem w_norm {K : PySem.W.Frag} {c : CEnv} : Wd (T_norm K c) N_norm 1 (sp_norm K c) := wd_lift S_norm q_norm

def ps_split : PSp := fun ds Q _ => ∃ d e f : Int, ds = [.int d, .int e, .int f] ∧ Mid d ∧ Mid e ∧ Mid f ∧ 0 ≤ f ∧ Q (.int (splitZ d e f))
theorem b_split {K : PySem.W.Frag} {c : CEnv} : SpSim K c (sp_split K) ps_split := by
  rintro S O H vs ds Q E Q' E' oc dr r ⟨d, e, f, rfl, h0, h1, h2, h3, q⟩ k _
  obtain ⟨v, u, w, rfl, a, b, z⟩ := rps3 r
  obtain rfl := rpI a
  obtain rfl := rpI b
  obtain rfl := rpI z
  exact ⟨d, e, f, rfl, h0, h1, h2, h3, k _ _ H (Ex.of (Same.refl H) fun st L e => (dr st L e).1) (.int _) q⟩

local macro_rules | `(tactic| walk_at "pu") => `(tactic| (with_reducible first | refine p_istr ?_ | refine p_cstT ?_ | refine p_kout ?_ | refine p_kin ?_ | refine p_kst ?_ | refine p_ord ?_ | refine p_izip2 ?_ | refine p_izip3 ?_ | (refine p_zip2 (by first | exact seqL | exact seqT | assumption) (by first | exact seqL | exact seqT | assumption) ?_) | (refine p_zip3 (by first | exact seqL | exact seqT | assumption) (by first | exact seqL | exact seqT | assumption) (by first | exact seqL | exact seqT | assumption) ?_) | (refine p_lenS (by omega) ?_)))
local macro_rules | `(tactic| walk_at "pv") => `(tactic| repeat (first | walk_at "p1" | walk_at "pu"))
local macro_rules | `(tactic| walk_at "pw") => `(tactic| repeat (first | walk_at "p1" | walk_at "pu" | walk_at "pd"))

/-! facts about vectors -/
abbrev PTK : List Str := ["start", "centre", "radius"]
abbrev PSK : List Str := ["parts"]
abbrev CLK : List Str := ["near", "rival"]
abbrev BXK : List Str := ["low", "high"]
abbrev NMK : List Str := ["low", "high"]
abbrev DFK : List Str := ["centre", "most"]
abbrev PartF := Int × List Int × Int
abbrev partD (p : PartF) : Da := .ins "Part" PTK [.int p.1, .tup (iD p.2.1), .int p.2.2]
abbrev partsD (l : List PartF) : Da := .ins "Parts" PSK [.tup (l.map partD)]
abbrev cellD (a b : List Int) : Da := .ins "Cell" CLK [.tup (iD a), .tup (iD b)]
abbrev boxD (a b : List Int) : Da := .ins "Box" BXK [.tup (iD a), .tup (iD b)]
abbrev normsD (a b : Int) : Da := .ins "Norms" NMK [.int a, .int b]
abbrev differD (a : List Int) (m : Int) : Da := .ins "Differ" DFK [.tup (iD a), .int m]
/-- a sum over a list -/
def sumF {α : Type} (f : α → Int) (l : List α) : Int := (l.map f).foldl (· + ·) 0
theorem sumF_nil {α : Type} {f : α → Int} : sumF f [] = 0 := rfl
theorem sumF_app {α : Type} {f : α → Int} {l : List α} {a : α} : sumF f (l ++ [a]) = sumF f l + f a := by simp [sumF]
theorem sumF_take {α : Type} {f : α → Int} {l : List α} {i : Nat} {a : α} (h : l[i]? = some a) : sumF f (l.take (i + 1)) = sumF f (l.take i) + f a := by rw [takeS h, sumF_app]
theorem sumF_range {f : Nat → Int} {i : Nat} : sumF f (List.range (i + 1)) = sumF f (List.range i) + f i := by rw [List.range_succ, sumF_app]
theorem sumF_congr {α : Type} {f g : α → Int} {l : List α} (h : ∀ a ∈ l, f a = g a) : sumF f l = sumF g l := by unfold sumF; rw [List.map_congr_left h]
theorem inner_abs : ∀ {a b : List Int}, Bd VM a → Bd VM b → (innerZ a b).natAbs ≤ a.length * 10000000000000000000000000000000000
  | [], _, _, _ => by simp [innerZ]
  | _ :: _, [], _, _ => by simp [innerZ]
  | x :: a, y :: b, h1, h2 => by
    have ih := inner_abs (a := a) (b := b) (fun z hz => h1 z (List.mem_cons_of_mem _ hz)) fun z hz => h2 z (List.mem_cons_of_mem _ hz)
    have e1 := h1 x (List.mem_cons_self ..)
    have e2 := h2 y (List.mem_cons_self ..)
    have : (x * y).natAbs ≤ 100000000000000000 * 100000000000000000 := by
      rw [Int.natAbs_mul]
      unfold VM at e1 e2
      exact Nat.mul_le_mul (by omega) (by omega)
    show (x * y + innerZ a b).natAbs ≤ (a.length + 1) * _
    generalize innerZ a b = s at *
    generalize x * y = z at *
    omega
theorem short_of {n : Int} (h : n.natAbs ≤ 10000000000000000000000000000000000000000) : Short n := by
  refine Short.of (b := 140) ?_ (by decide)
  exact Nat.lt_of_le_of_lt h (by decide)
theorem inner_short {a b : List Int} (hl : a.length ≤ 100000) (h1 : Bd VM a) (h2 : Bd VM b) : Short (innerZ a b) := short_of (by
  have := inner_abs h1 h2
  have : a.length * 10000000000000000000000000000000000 ≤ 100000 * 10000000000000000000000000000000000 := Nat.mul_le_mul_right _ hl
  omega)
theorem dist_short {a b : List Int} (hl : a.length ≤ 100000) (h1 : Bd VM a) (h2 : Bd VM b) : Short (distZ a b) := short_of (by
  have z := distZ_le h1 h2
  have n := distZ_nn a b
  have : (a.length : Int) * (4 * (VM * VM)) ≤ 100000 * (4 * (VM * VM)) := Int.mul_le_mul_of_nonneg_right (by omega) (by decide)
  have : (4 : Int) * (VM * VM) = 40000000000000000000000000000000000 := by decide
  omega)
theorem short_mul {a b : Int} (ha : Short a) (hb : Short b) : a * b < 2 ^ 100000 := by
  have h1 : (a * b).natAbs < 2 ^ 40000 * 2 ^ 40000 := by
    rw [Int.natAbs_mul]
    exact Nat.mul_lt_mul'' ha hb
  rw [← Nat.pow_add] at h1
  have h2 : (2 : Nat) ^ (40000 + 40000) ≤ 2 ^ 100000 := pow_le_pow (by decide)
  have h3 : ((2 ^ 100000 : Nat) : Int) = (2 : Int) ^ 100000 := by rw [Int.natCast_pow]; rfl
  rw [← h3]
  generalize (2 : Nat) ^ 100000 = M at *
  generalize (2 : Nat) ^ (40000 + 40000) = M2 at *
  omega
theorem Bd.take {b : Int} {l : List Int} (h : Bd b l) (n : Nat) : Bd b (l.take n) := fun x hx => h x (List.mem_of_mem_take hx)
theorem Bd.drop {b : Int} {l : List Int} (h : Bd b l) (n : Nat) : Bd b (l.drop n) := fun x hx => h x (List.mem_of_mem_drop hx)
/-- what a part is about -/
def cutZ (q : List Int) (p : PartF) : List Int := (q.drop p.1.toNat).take p.2.1.length
def inP (n : Nat) (p : PartF) : Bool := decide (0 ≤ p.1) && decide (p.1 + (p.2.1.length : Int) ≤ n)
def fitsP (l : List PartF) (n : Nat) : Bool := l.all (inP n)
def apartP : Int → List PartF → Bool
  | _, [] => true
  | e, p :: l => decide (e ≤ p.1) && apartP (p.1 + (p.2.1.length : Int)) l
def coversP (n : Int) : Int → List PartF → Bool
  | e, [] => decide (e = n)
  | e, p :: l => decide (p.1 = e) && coversP n (p.1 + (p.2.1.length : Int)) l
theorem cutZ_len {q : List Int} {p : PartF} (h : inP q.length p = true) : (cutZ q p).length = p.2.1.length := by
  unfold inP at h
  rw [Bool.and_eq_true, decide_eq_true_iff, decide_eq_true_iff] at h
  unfold cutZ
  rw [List.length_take, List.length_drop]; omega
theorem cutZ_bd {b : Int} {q : List Int} {p : PartF} (h : Bd b q) : Bd b (cutZ q p) := (h.drop _).take _
/-- the size that facts may have here -/
def POk (p : PartF) : Prop := Bd VM p.2.1 ∧ p.2.1.length ≤ 100000 ∧ Short p.2.2
def VOk (q : List Int) : Prop := Bd VM q ∧ q.length ≤ 100000
/-! Part_init -/
def ps_Part_init : PSi := fun ds Q _ => ∃ a v c l, ds = [a, v, c] ∧ seqD v l ∧ Q [a, .tup l, c]
def sp_Part_init (K : PySem.W.Frag) (c : CEnv) : Sp := liftI K c "Part" PTK ps_Part_init
theorem b_Part_init {K : PySem.W.Frag} {c : CEnv} : SpSimI K c "Part" PTK (sp_Part_init K c) ps_Part_init := spSimI_lift
abbrev N_Part_init : List Str := ["self", "start", "centre", "radius"]
-- Part.__init__(self, start, centre, radius): slots 0:self 1:start 2:centre 3:radius
def T_Part_init (K : PySem.W.Frag) : TS :=
    (tSeq (sFld K (tVar 0) (tVar 1) "start")
    (tSeq (sFld K (tVar 0) (tCB (uTuple K) (tCons (tVar 2) tNil)) "centre")
    (sFld K (tVar 0) (tVar 3) "radius")))
def P_Part_init : PSt :=
    (pSeq (pSetF 0 "start" (pVar 1))
    (pSeq (pSetF 0 "centre" (pCB pTuple (pCons (pVar 2) pNil)))
    (pSetF 0 "radius" (pVar 3))))
theorem S_Part_init {K : PySem.W.Frag} {c : CEnv} : SimS ⟨K, c, W0, fun _ _ => False⟩ (T_Part_init K) (P_Part_init) := by
  unfold T_Part_init P_Part_init
  exact (sim_seq (sim_setF (sim_var 1))
    (sim_seq (sim_setF (sim_cb sim_tuple (sim_cons (sim_var 2) sim_nil)))
    (sim_setF (sim_var 3))))

theorem q_Part_init : ∀ ds Q E, ps_Part_init ds Q E → ds.length + 1 = 4 ∧ P_Part_init { nx := endI "Part" PTK Q, rt := fun _ => False } (startI "Part" PTK 4 ds) := by
  rintro _ Q E ⟨a, v, c, l, rfl, sv, q⟩
  refine ⟨rfl, ?_⟩
  unfold P_Part_init startI startP
  walk_at "pv"
  refine p_tupleS sv ?_
  walk_at "pv"

  exact ⟨_, rfl, q⟩
theorem w_Part_init {K : PySem.W.Frag} {c : CEnv} : Wd (T_Part_init K) N_Part_init 4 (sp_Part_init K c) := wd_liftI S_Part_init (by decide) q_Part_init
/-! Part_after -/
def ps_Part_after : PSp := fun ds Q _ => ∃ (p : PartF), ds = [partD p] ∧ Q (.int (p.1 + (p.2.1.length : Int)))
def sp_Part_after (K : PySem.W.Frag) (c : CEnv) : Sp := lift K c ps_Part_after
theorem b_Part_after {K : PySem.W.Frag} {c : CEnv} : SpSim K c (sp_Part_after K c) ps_Part_after := spSim_lift
abbrev N_Part_after : List Str := ["self"]
-- Part.after(self): slots 0:self
def T_Part_after (K : PySem.W.Frag) : TS :=
    (tRet (tOp (uAdd K) (tFld K (tVar 0) "start") (tCB (uLen K) (tCons (tFld K (tVar 0) "centre") tNil))))
def P_Part_after : PSt :=
    (pRet (pOp pAdd (pFld (pVar 0) "start") (pCB pLen (pCons (pFld (pVar 0) "centre") pNil))))
theorem S_Part_after {K : PySem.W.Frag} {c : CEnv} : SimS ⟨K, c, W0, fun _ _ => False⟩ (T_Part_after K) (P_Part_after) := by
  unfold T_Part_after P_Part_after
  exact (sim_ret (sim_op sim_add (sim_fld (sim_var 0)) (sim_cb sim_len (sim_cons (sim_fld (sim_var 0)) sim_nil))))

theorem q_Part_after : ∀ ds Q E, ps_Part_after ds Q E → ds.length = 1 ∧ P_Part_after { nx := fun _ => Q .non, rt := Q } (startP 1 ds) := by
  rintro _ Q E ⟨p, rfl, q⟩
  refine ⟨rfl, ?_⟩
  show P_Part_after _ [some (.d (partD p))]
  unfold P_Part_after
  walk_at "pv"
  rw [List.length_map]
  exact q
theorem w_Part_after {K : PySem.W.Frag} {c : CEnv} : Wd (T_Part_after K) N_Part_after 1 (sp_Part_after K c) := wd_lift S_Part_after q_Part_after

theorem cutD_in {q : List Int} {p : PartF} (h : inP q.length p = true) : cutD (iD q) (some p.1) (some (p.1 + (p.2.1.length : Int))) = iD (cutZ q p) := by
  unfold inP at h
  rw [Bool.and_eq_true, decide_eq_true_iff, decide_eq_true_iff] at h
  unfold cutD cutZ
  rw [List.length_map]
  have e1 : HT.sIx q.length 0 (some p.1) = p.1.toNat := by simp only [HT.sIx]; split <;> omega
  have e2 : HT.sIx q.length q.length (some (p.1 + (p.2.1.length : Int))) = p.1.toNat + p.2.1.length := by simp only [HT.sIx]; split <;> omega
  rw [e1, e2, Nat.add_sub_cancel_left]
  simp only [iD, List.map_take, List.map_drop]
/-! Part_cut -/
def ps_Part_cut : PSp := fun ds Q _ => ∃ (p : PartF) (v : Da) (q : List Int), ds = [partD p, v] ∧ seqD v (iD q) ∧ inP q.length p = true ∧ ∀ r, seqD r (iD (cutZ q p)) → Q r
def sp_Part_cut (K : PySem.W.Frag) (c : CEnv) : Sp := lift K c ps_Part_cut
theorem b_Part_cut {K : PySem.W.Frag} {c : CEnv} : SpSim K c (sp_Part_cut K c) ps_Part_cut := spSim_lift
abbrev N_Part_cut : List Str := ["self", "vector"]
-- Part.cut(self, vector): slots 0:self 1:vector
def T_Part_cut (K : PySem.W.Frag) (c : CEnv) : TS :=
    (tRet (tSl (uSl K) (tVar 1) (tPart (tFld K (tVar 0) "start")) (tPart (tPr c "Part" (sp_Part_after K c) (tVar 0)))))
def P_Part_cut : PSt :=
    (pRet (pSl (pVar 1) (pPart (pFld (pVar 0) "start")) (pPart (pPr "Part" ps_Part_after (pVar 0)))))
theorem S_Part_cut {K : PySem.W.Frag} {c : CEnv} : SimS ⟨K, c, W0, fun _ _ => False⟩ (T_Part_cut K c) (P_Part_cut) := by
  unfold T_Part_cut P_Part_cut
  exact (sim_ret (sim_sl (sim_var 1) (sim_part (sim_fld (sim_var 0))) (sim_part (sim_pr b_Part_after (sim_var 0)))))

theorem q_Part_cut : ∀ ds Q E, ps_Part_cut ds Q E → ds.length = 2 ∧ P_Part_cut { nx := fun _ => Q .non, rt := Q } (startP 2 ds) := by
  rintro _ Q E ⟨p, v, z, rfl, sv, hi, q⟩
  refine ⟨rfl, ?_⟩
  show P_Part_cut _ [some (.d (partD p)), some (.d v)]
  unfold P_Part_cut
  walk_at "pv"
  refine ⟨p, rfl, ?_⟩
  walk_at "pv"
  rcases sv with rfl | rfl
  · refine p_slL ?_
    rw [cutD_in hi]
    exact q _ (.inl rfl)
  · refine p_slT ?_
    rw [cutD_in hi]
    exact q _ (.inr rfl)
theorem w_Part_cut {K : PySem.W.Frag} {c : CEnv} : Wd (T_Part_cut K c) N_Part_cut 2 (sp_Part_cut K c) := wd_lift S_Part_cut q_Part_cut
/-! Parts_init -/
def ps_Parts_init : PSi := fun ds Q _ => ∃ v l, ds = [v] ∧ seqD v l ∧ Q [.tup l]
def sp_Parts_init (K : PySem.W.Frag) (c : CEnv) : Sp := liftI K c "Parts" PSK ps_Parts_init
theorem b_Parts_init {K : PySem.W.Frag} {c : CEnv} : SpSimI K c "Parts" PSK (sp_Parts_init K c) ps_Parts_init := spSimI_lift
abbrev N_Parts_init : List Str := ["self", "parts"]
-- Parts.__init__(self, parts): slots 0:self 1:parts
def T_Parts_init (K : PySem.W.Frag) : TS :=
    (sFld K (tVar 0) (tCB (uTuple K) (tCons (tVar 1) tNil)) "parts")
def P_Parts_init : PSt :=
    (pSetF 0 "parts" (pCB pTuple (pCons (pVar 1) pNil)))
theorem S_Parts_init {K : PySem.W.Frag} {c : CEnv} : SimS ⟨K, c, W0, fun _ _ => False⟩ (T_Parts_init K) (P_Parts_init) := by
  unfold T_Parts_init P_Parts_init
  exact (sim_setF (sim_cb sim_tuple (sim_cons (sim_var 1) sim_nil)))

theorem q_Parts_init : ∀ ds Q E, ps_Parts_init ds Q E → ds.length + 1 = 2 ∧ P_Parts_init { nx := endI "Parts" PSK Q, rt := fun _ => False } (startI "Parts" PSK 2 ds) := by
  rintro _ Q E ⟨v, l, rfl, sv, q⟩
  refine ⟨rfl, ?_⟩
  unfold P_Parts_init startI startP
  walk_at "pv"
  refine p_tupleS sv ?_
  walk_at "pv"

  exact ⟨_, rfl, q⟩
theorem w_Parts_init {K : PySem.W.Frag} {c : CEnv} : Wd (T_Parts_init K) N_Parts_init 2 (sp_Parts_init K c) := wd_liftI S_Parts_init (by decide) q_Parts_init

theorem all_drop {α : Type} {f : α → Bool} {l : List α} {i : Nat} {a : α} (h : l[i]? = some a) : (l.drop i).all f = (f a && (l.drop (i + 1)).all f) := by
  have := List.drop_eq_getElem_cons (List.getElem?_eq_some_iff.mp h).1
  rw [this, List.all_cons, (List.getElem?_eq_some_iff.mp h).2]
theorem drop_at {α : Type} {l : List α} {i : Nat} {a : α} (h : l[i]? = some a) : l.drop i = a :: l.drop (i + 1) := by
  rw [List.drop_eq_getElem_cons (List.getElem?_eq_some_iff.mp h).1, (List.getElem?_eq_some_iff.mp h).2]
/-! Parts_fits -/
def ps_Parts_fits : PSp := fun ds Q _ => ∃ (l : List PartF) (v : Da) (q : List Da), ds = [partsD l, v] ∧ seqD v q ∧ Q (.bl (fitsP l q.length))
def sp_Parts_fits (K : PySem.W.Frag) (c : CEnv) : Sp := lift K c ps_Parts_fits
theorem b_Parts_fits {K : PySem.W.Frag} {c : CEnv} : SpSim K c (sp_Parts_fits K c) ps_Parts_fits := spSim_lift
abbrev N_Parts_fits : List Str := ["self", "q", "part"]
-- Parts.fits(self, q): slots 0:self 1:q 2:part
def T_Parts_fits_b1 (K : PySem.W.Frag) (c : CEnv) : TS :=
    (tIfS (tOr (tTest (tOp (uLt K) (tFld K (tVar 2) "start") (tC (.int 0)))) (tTest (tOp uGt (tPr c "Part" (sp_Part_after K c) (tVar 2)) (tCB (uLen K) (tCons (tVar 1) tNil))))) (tRet (tC (.bl false))) tNext)
def T_Parts_fits (K : PySem.W.Frag) (c : CEnv) : TS :=
    (tSeq (tFor (iSq K (tFld K (tVar 0) "parts")) (gName 2) (T_Parts_fits_b1 K c))
    (tRet (tC (.bl true))))
def P_Parts_fits_b1 : PSt :=
    (pIfS (pOr (pTest (pOp pLt (pFld (pVar 2) "start") (pC (.int 0)))) (pTest (pOp pGt (pPr "Part" ps_Part_after (pVar 2)) (pCB pLen (pCons (pVar 1) pNil))))) (pRet (pC (.bl false))) pNext)
def P_Parts_fits : PSt :=
    (pSeq (pFor (piSq (pFld (pVar 0) "parts")) (pgName 2) P_Parts_fits_b1)
    (pRet (pC (.bl true))))
theorem S_Parts_fits {K : PySem.W.Frag} {c : CEnv} : SimS ⟨K, c, W0, fun _ _ => False⟩ (T_Parts_fits K c) (P_Parts_fits) := by
  unfold T_Parts_fits P_Parts_fits T_Parts_fits_b1 P_Parts_fits_b1
  exact (sim_seq (sim_for (sim_iSq (sim_fld (sim_var 0))) (sim_gName 2) (sim_ifS (sim_or (sim_test (sim_op sim_lt (sim_fld (sim_var 2)) (sim_int _))) (sim_test (sim_op sim_gt (sim_pr b_Part_after (sim_var 2)) (sim_cb sim_len (sim_cons (sim_var 1) sim_nil))))) (sim_ret (sim_bl _)) sim_next))
    (sim_ret (sim_bl _)))

theorem q_Parts_fits : ∀ ds Q E, ps_Parts_fits ds Q E → ds.length = 2 ∧ P_Parts_fits { nx := fun _ => Q .non, rt := Q } (startP 3 ds) := by
  rintro _ Q E ⟨l, v, z, rfl, sv, q⟩
  refine ⟨rfl, ?_⟩
  show P_Parts_fits _ [some (.d (partsD l)), some (.d v), none]
  unfold P_Parts_fits
  walk_at "pv"
  refine p_loop (fun i ρ => (∃ x2, ρ = [some (.d (partsD l)), some (.d v), x2]) ∧ fitsP l z.length = (l.drop i).all (inP z.length)) ?_ ?_ ?_
  · exact ⟨⟨_, rfl⟩, rfl⟩
  · rintro i x ρ' hx ⟨⟨x2, rfl⟩, ih⟩
    obtain ⟨p, hp, rfl⟩ := mapD_get hx
    rw [all_drop hp] at ih
    unfold P_Parts_fits_b1
    walk_at "pv"
    refine z_itD (fun c => ?_) (fun c => ?_)
    · walk_at "pw"
      rw [ih, show inP z.length p = false by unfold inP; rw [decide_eq_false (by omega)]; rfl] at q
      exact q
    · walk_at "pv"
      refine ⟨p, rfl, ?_⟩
      refine p_cb ?_
      walk_at "pv"
      refine p_lenSq sv ?_
      walk_at "pv"
      refine z_itD (fun c2 => ?_) (fun c2 => ?_)
      · walk_at "pv"
        rw [ih, show inP z.length p = false by unfold inP; rw [decide_eq_false (show ¬ p.1 + (p.2.1.length : Int) ≤ z.length by omega), Bool.and_false]] at q
        exact q
      · walk_at "pv"
        refine ⟨⟨_, rfl⟩, ?_⟩
        rw [ih, show inP z.length p = true by unfold inP; rw [decide_eq_true (by omega), decide_eq_true (by omega)]; rfl]; rfl
  · rintro ρ' ⟨⟨x2, rfl⟩, ih⟩
    rw [List.length_map, List.drop_length] at ih
    walk_at "pv"
    rw [ih] at q
    exact q
theorem w_Parts_fits {K : PySem.W.Frag} {c : CEnv} : Wd (T_Parts_fits K c) N_Parts_fits 2 (sp_Parts_fits K c) := wd_lift S_Parts_fits q_Parts_fits
/-! Parts_apart -/
def ps_Parts_apart : PSp := fun ds Q _ => ∃ (l : List PartF), ds = [partsD l] ∧ Q (.bl (apartP 0 l))
def sp_Parts_apart (K : PySem.W.Frag) (c : CEnv) : Sp := lift K c ps_Parts_apart
theorem b_Parts_apart {K : PySem.W.Frag} {c : CEnv} : SpSim K c (sp_Parts_apart K c) ps_Parts_apart := spSim_lift
abbrev N_Parts_apart : List Str := ["self", "end", "part"]
-- Parts.apart(self): slots 0:self 1:end 2:part
def T_Parts_apart_b1 (K : PySem.W.Frag) (c : CEnv) : TS :=
    (tSeq (tIfS (tTest (tOp (uLt K) (tFld K (tVar 2) "start") (tVar 1))) (tRet (tC (.bl false))) tNext)
    (tAsg (tPr c "Part" (sp_Part_after K c) (tVar 2)) (gName 1)))
def T_Parts_apart (K : PySem.W.Frag) (c : CEnv) : TS :=
    (tSeq (tAsg (tC (.int 0)) (gName 1))
    (tSeq (tFor (iSq K (tFld K (tVar 0) "parts")) (gName 2) (T_Parts_apart_b1 K c))
    (tRet (tC (.bl true)))))
def P_Parts_apart_b1 : PSt :=
    (pSeq (pIfS (pTest (pOp pLt (pFld (pVar 2) "start") (pVar 1))) (pRet (pC (.bl false))) pNext)
    (pAsg (pPr "Part" ps_Part_after (pVar 2)) (pgName 1)))
def P_Parts_apart : PSt :=
    (pSeq (pAsg (pC (.int 0)) (pgName 1))
    (pSeq (pFor (piSq (pFld (pVar 0) "parts")) (pgName 2) P_Parts_apart_b1)
    (pRet (pC (.bl true)))))
theorem S_Parts_apart {K : PySem.W.Frag} {c : CEnv} : SimS ⟨K, c, W0, fun _ _ => False⟩ (T_Parts_apart K c) (P_Parts_apart) := by
  unfold T_Parts_apart P_Parts_apart T_Parts_apart_b1 P_Parts_apart_b1
  exact (sim_seq (sim_asg (sim_int _) (sim_gName 1))
    (sim_seq (sim_for (sim_iSq (sim_fld (sim_var 0))) (sim_gName 2) (sim_seq (sim_ifS (sim_test (sim_op sim_lt (sim_fld (sim_var 2)) (sim_var 1))) (sim_ret (sim_bl _)) sim_next)
    (sim_asg (sim_pr b_Part_after (sim_var 2)) (sim_gName 1))))
    (sim_ret (sim_bl _))))

theorem q_Parts_apart : ∀ ds Q E, ps_Parts_apart ds Q E → ds.length = 1 ∧ P_Parts_apart { nx := fun _ => Q .non, rt := Q } (startP 3 ds) := by
  rintro _ Q E ⟨l, rfl, q⟩
  refine ⟨rfl, ?_⟩
  show P_Parts_apart _ [some (.d (partsD l)), none, none]
  unfold P_Parts_apart
  walk_at "pv"
  refine p_loop (fun i ρ => ∃ e x2, ρ = [some (.d (partsD l)), some (.d (.int e)), x2] ∧ apartP 0 l = apartP e (l.drop i)) ?_ ?_ ?_
  · exact ⟨0, none, rfl, rfl⟩
  · rintro i x ρ' hx ⟨e, x2, rfl, ih⟩
    obtain ⟨p, hp, rfl⟩ := mapD_get hx
    rw [drop_at hp, apartP] at ih
    unfold P_Parts_apart_b1
    walk_at "pv"
    refine z_itD (fun c => ?_) (fun c => ?_)
    · walk_at "pv"
      rw [ih, decide_eq_false (by omega)] at q
      exact q
    · walk_at "pv"
      refine ⟨p, rfl, ?_⟩
      walk_at "pv"
      refine ⟨_, _, rfl, ?_⟩
      rw [ih, decide_eq_true (by omega), Bool.true_and]
  · rintro ρ' ⟨e, x2, rfl, ih⟩
    rw [List.length_map, List.drop_length] at ih
    walk_at "pv"
    rw [ih] at q
    exact q
theorem w_Parts_apart {K : PySem.W.Frag} {c : CEnv} : Wd (T_Parts_apart K c) N_Parts_apart 1 (sp_Parts_apart K c) := wd_lift S_Parts_apart q_Parts_apart
/-! Parts_covers -/
def ps_Parts_covers : PSp := fun ds Q _ => ∃ (l : List PartF) (n : Int), ds = [partsD l, .int n] ∧ Q (.bl (coversP n 0 l))
def sp_Parts_covers (K : PySem.W.Frag) (c : CEnv) : Sp := lift K c ps_Parts_covers
theorem b_Parts_covers {K : PySem.W.Frag} {c : CEnv} : SpSim K c (sp_Parts_covers K c) ps_Parts_covers := spSim_lift
abbrev N_Parts_covers : List Str := ["self", "size", "end", "part"]
-- Parts.covers(self, size): slots 0:self 1:size 2:end 3:part
def T_Parts_covers_b1 (K : PySem.W.Frag) (c : CEnv) : TS :=
    (tSeq (tIfS (tTest (tOp (uNe K) (tFld K (tVar 3) "start") (tVar 2))) (tRet (tC (.bl false))) tNext)
    (tAsg (tPr c "Part" (sp_Part_after K c) (tVar 3)) (gName 2)))
def T_Parts_covers (K : PySem.W.Frag) (c : CEnv) : TS :=
    (tSeq (tAsg (tC (.int 0)) (gName 2))
    (tSeq (tFor (iSq K (tFld K (tVar 0) "parts")) (gName 3) (T_Parts_covers_b1 K c))
    (tRet (tOp (uEq K) (tVar 2) (tVar 1)))))
def P_Parts_covers_b1 : PSt :=
    (pSeq (pIfS (pTest (pOp pNe (pFld (pVar 3) "start") (pVar 2))) (pRet (pC (.bl false))) pNext)
    (pAsg (pPr "Part" ps_Part_after (pVar 3)) (pgName 2)))
def P_Parts_covers : PSt :=
    (pSeq (pAsg (pC (.int 0)) (pgName 2))
    (pSeq (pFor (piSq (pFld (pVar 0) "parts")) (pgName 3) P_Parts_covers_b1)
    (pRet (pOp pEq (pVar 2) (pVar 1)))))
theorem S_Parts_covers {K : PySem.W.Frag} {c : CEnv} : SimS ⟨K, c, W0, fun _ _ => False⟩ (T_Parts_covers K c) (P_Parts_covers) := by
  unfold T_Parts_covers P_Parts_covers T_Parts_covers_b1 P_Parts_covers_b1
  exact (sim_seq (sim_asg (sim_int _) (sim_gName 2))
    (sim_seq (sim_for (sim_iSq (sim_fld (sim_var 0))) (sim_gName 3) (sim_seq (sim_ifS (sim_test (sim_op sim_ne (sim_fld (sim_var 3)) (sim_var 2))) (sim_ret (sim_bl _)) sim_next)
    (sim_asg (sim_pr b_Part_after (sim_var 3)) (sim_gName 2))))
    (sim_ret (sim_op sim_eq (sim_var 2) (sim_var 1)))))

theorem q_Parts_covers : ∀ ds Q E, ps_Parts_covers ds Q E → ds.length = 2 ∧ P_Parts_covers { nx := fun _ => Q .non, rt := Q } (startP 4 ds) := by
  rintro _ Q E ⟨l, n, rfl, q⟩
  refine ⟨rfl, ?_⟩
  show P_Parts_covers _ [some (.d (partsD l)), some (.d (.int n)), none, none]
  unfold P_Parts_covers
  walk_at "pv"
  refine p_loop (fun i ρ => ∃ e x2, ρ = [some (.d (partsD l)), some (.d (.int n)), some (.d (.int e)), x2] ∧ coversP n 0 l = coversP n e (l.drop i)) ?_ ?_ ?_
  · exact ⟨0, none, rfl, rfl⟩
  · rintro i x ρ' hx ⟨e, x2, rfl, ih⟩
    obtain ⟨p, hp, rfl⟩ := mapD_get hx
    rw [drop_at hp, coversP] at ih
    unfold P_Parts_covers_b1
    walk_at "pv"
    cases c : decide (p.1 = e) with
    | false =>
      walk_at "pw"
      rw [ih, c] at q
      exact q
    | true =>
      walk_at "pw"
      refine ⟨p, rfl, ?_⟩
      walk_at "pv"
      refine ⟨_, _, rfl, ?_⟩
      rw [ih, c, Bool.true_and]
  · rintro ρ' ⟨e, x2, rfl, ih⟩
    rw [List.length_map, List.drop_length] at ih
    walk_at "pv"
    rw [ih, coversP] at q
    exact q
theorem w_Parts_covers {K : PySem.W.Frag} {c : CEnv} : Wd (T_Parts_covers K c) N_Parts_covers 2 (sp_Parts_covers K c) := wd_lift S_Parts_covers q_Parts_covers

def pfar (q : List Int) (p : PartF) : Int := gapZ (distZ p.2.1 (cutZ q p)) p.2.2
def partsLd (l : List PartF) (q : List Int) : Int := if fitsP l q.length && apartP 0 l then sumF (pfar q) l else 0
def pprod (q : List Int) (p : PartF) : Int := innerZ p.2.1 (cutZ q p) + rootZ (innerZ (cutZ q p) (cutZ q p) * p.2.2)
def partsMp (l : List PartF) (q : List Int) : Option Int := if fitsP l q.length && coversP q.length 0 l then some (sumF (pprod q) l) else none
theorem fits_at {l : List PartF} {n i : Nat} {p : PartF} (h : fitsP l n = true) (hp : l[i]? = some p) : inP n p = true := List.all_eq_true.mp h p (List.mem_of_getElem? hp)
def oI : Option Int → Da | none => .non | some i => .int i
/-! Parts_least_distance -/
def ps_Parts_least_distance : PSp := fun ds Q _ => ∃ (l : List PartF) (v : Da) (q : List Int), ds = [partsD l, v] ∧ seqD v (iD q) ∧ (∀ p ∈ l, POk p) ∧ VOk q ∧ Q (.int (partsLd l q))
def sp_Parts_least_distance (K : PySem.W.Frag) (c : CEnv) : Sp := lift K c ps_Parts_least_distance
theorem b_Parts_least_distance {K : PySem.W.Frag} {c : CEnv} : SpSim K c (sp_Parts_least_distance K c) ps_Parts_least_distance := spSim_lift
abbrev N_Parts_least_distance : List Str := ["self", "q", "total", "part"]
-- Parts.least_distance(self, q): slots 0:self 1:q 2:total 3:part
def T_Parts_least_distance_b1 (K : PySem.W.Frag) (c : CEnv) : TS :=
    (tAsg (tOp (uAdd K) (tVar 2) (tCal (sp_gap K) (tCons (tCal (sp_distance K c) (tCons (tFld K (tVar 3) "centre") (tCons (tMt c "Part" "cut" (sp_Part_cut K c) (tVar 3) (tCons (tVar 1) tNil)) tNil))) (tCons (tFld K (tVar 3) "radius") tNil)))) (gName 2))
def T_Parts_least_distance (K : PySem.W.Frag) (c : CEnv) : TS :=
    (tSeq (tAsg (tC (.int 0)) (gName 2))
    (tCut (tIfS (tAnd (tTru K (tMt c "Parts" "fits" (sp_Parts_fits K c) (tVar 0) (tCons (tVar 1) tNil))) (tTru K (tMt c "Parts" "apart" (sp_Parts_apart K c) (tVar 0) tNil))) (tFor (iSq K (tFld K (tVar 0) "parts")) (gName 3) (T_Parts_least_distance_b1 K c)) tNext)
    (tRet (tVar 2))))
def P_Parts_least_distance_b1 : PSt :=
    (pAsg (pOp pAdd (pVar 2) (pCal ps_gap (pCons (pCal ps_distance (pCons (pFld (pVar 3) "centre") (pCons (pMt "Part" "cut" ps_Part_cut (pVar 3) (pCons (pVar 1) pNil)) pNil))) (pCons (pFld (pVar 3) "radius") pNil)))) (pgName 2))
def P_Parts_least_distance : PSt :=
    (pSeq (pAsg (pC (.int 0)) (pgName 2))
    (pCut (pIfS (pAnd (pTru (pMt "Parts" "fits" ps_Parts_fits (pVar 0) (pCons (pVar 1) pNil))) (pTru (pMt "Parts" "apart" ps_Parts_apart (pVar 0) pNil))) (pFor (piSq (pFld (pVar 0) "parts")) (pgName 3) P_Parts_least_distance_b1) pNext)
    (pRet (pVar 2))))
theorem S_Parts_least_distance {K : PySem.W.Frag} {c : CEnv} : SimS ⟨K, c, W0, fun _ _ => False⟩ (T_Parts_least_distance K c) (P_Parts_least_distance) := by
  unfold T_Parts_least_distance P_Parts_least_distance T_Parts_least_distance_b1 P_Parts_least_distance_b1
  exact (sim_seq (sim_asg (sim_int _) (sim_gName 2))
    (sim_cut (sim_ifS (sim_and (sim_tru (sim_mt b_Parts_fits (sim_var 0) (sim_cons (sim_var 1) sim_nil))) (sim_tru (sim_mt b_Parts_apart (sim_var 0) sim_nil))) (sim_for (sim_iSq (sim_fld (sim_var 0))) (sim_gName 3) (sim_asg (sim_op sim_add (sim_var 2) (sim_cal b_gap (sim_cons (sim_cal b_distance (sim_cons (sim_fld (sim_var 3)) (sim_cons (sim_mt b_Part_cut (sim_var 3) (sim_cons (sim_var 1) sim_nil)) sim_nil))) (sim_cons (sim_fld (sim_var 3)) sim_nil)))) (sim_gName 2))) sim_next)
    (sim_ret (sim_var 2))))

theorem q_Parts_least_distance : ∀ ds Q E, ps_Parts_least_distance ds Q E → ds.length = 2 ∧ P_Parts_least_distance { nx := fun _ => Q .non, rt := Q } (startP 4 ds) := by
  rintro _ Q E ⟨l, v, z, rfl, sv, ok, okz, q⟩
  refine ⟨rfl, ?_⟩
  show P_Parts_least_distance _ [some (.d (partsD l)), some (.d v), none, none]
  unfold P_Parts_least_distance
  walk_at "pv"
  refine p_cut (fun ρ => ∃ x3, ρ = [some (.d (partsD l)), some (.d v), some (.d (.int (partsLd l z))), x3]) ?_ ?_
  · walk_at "pv"
    refine ⟨l, v, _, rfl, sv, ?_⟩
    rw [List.length_map]
    walk_at "pv"
    have ez : partsLd l z = if fitsP l z.length && apartP 0 l then sumF (pfar z) l else 0 := rfl
    cases c : fitsP l z.length with
    | false =>
      rw [c, Bool.false_and, if_neg (by decide)] at ez
      walk_at "pw"
      rw [ez]
      exact ⟨_, rfl⟩
    | true =>
      rw [c, Bool.true_and] at ez
      walk_at "pw"
      refine ⟨l, rfl, ?_⟩
      walk_at "pv"
      cases c2 : apartP 0 l with
      | false =>
        rw [c2, if_neg (by decide)] at ez
        walk_at "pw"
        rw [ez]
        exact ⟨_, rfl⟩
      | true =>
        rw [c2, if_pos rfl] at ez
        walk_at "pw"
        refine p_loop (fun i ρ => ∃ x3, ρ = [some (.d (partsD l)), some (.d v), some (.d (.int (sumF (pfar z) (l.take i)))), x3]) ?_ ?_ ?_
        · exact ⟨_, rfl⟩
        · rintro i x ρ' hx ⟨x3, rfl⟩
          obtain ⟨p, hp, rfl⟩ := mapD_get hx
          obtain ⟨o1, o2, o3⟩ := ok p (List.mem_of_getElem? hp)
          have hi := fits_at c hp
          unfold P_Parts_least_distance_b1
          walk_at "pv"
          refine ⟨p, v, z, rfl, sv, hi, fun r sr => ?_⟩
          walk_at "pv"
          refine ⟨_, r, p.2.1, cutZ z p, rfl, .inr rfl, sr, (cutZ_len hi).symm, o1, cutZ_bd okz.1, ?_⟩
          walk_at "pv"
          refine ⟨_, _, rfl, dist_short o2 o1 (cutZ_bd okz.1), o3, ?_⟩
          walk_at "pv"
          rw [sumF_take hp]
          exact ⟨_, rfl⟩
        · rintro ρ' ⟨x3, rfl⟩
          rw [List.length_map, List.take_length, ← ez]
          exact ⟨_, rfl⟩
  · rintro ρ' ⟨x3, rfl⟩
    walk_at "pv"
    exact q
theorem w_Parts_least_distance {K : PySem.W.Frag} {c : CEnv} : Wd (T_Parts_least_distance K c) N_Parts_least_distance 2 (sp_Parts_least_distance K c) := wd_lift S_Parts_least_distance q_Parts_least_distance
/-! Parts_most_product -/
def ps_Parts_most_product : PSp := fun ds Q _ => ∃ (l : List PartF) (v : Da) (q : List Int), ds = [partsD l, v] ∧ seqD v (iD q) ∧ (∀ p ∈ l, POk p) ∧ VOk q ∧ Q (oI (partsMp l q))
def sp_Parts_most_product (K : PySem.W.Frag) (c : CEnv) : Sp := lift K c ps_Parts_most_product
theorem b_Parts_most_product {K : PySem.W.Frag} {c : CEnv} : SpSim K c (sp_Parts_most_product K c) ps_Parts_most_product := spSim_lift
abbrev N_Parts_most_product : List Str := ["self", "q", "total", "part"]
-- Parts.most_product(self, q): slots 0:self 1:q 2:total 3:part
def T_Parts_most_product_b1 (K : PySem.W.Frag) (c : CEnv) : TS :=
    (tAsg (tOp (uAdd K) (tOp (uAdd K) (tVar 2) (tCal (sp_inner K c) (tCons (tFld K (tVar 3) "centre") (tCons (tMt c "Part" "cut" (sp_Part_cut K c) (tVar 3) (tCons (tVar 1) tNil)) tNil)))) (tCal (sp_root K) (tCons (tOp uMul (tCal (sp_norm K c) (tCons (tMt c "Part" "cut" (sp_Part_cut K c) (tVar 3) (tCons (tVar 1) tNil)) tNil)) (tFld K (tVar 3) "radius")) tNil))) (gName 2))
def T_Parts_most_product (K : PySem.W.Frag) (c : CEnv) : TS :=
    (tSeq (tIfS (tOr (tNot (tTru K (tMt c "Parts" "fits" (sp_Parts_fits K c) (tVar 0) (tCons (tVar 1) tNil)))) (tNot (tTru K (tMt c "Parts" "covers" (sp_Parts_covers K c) (tVar 0) (tCons (tCB (uLen K) (tCons (tVar 1) tNil)) tNil))))) (tRet (tC .non)) tNext)
    (tSeq (tAsg (tC (.int 0)) (gName 2))
    (tSeq (tFor (iSq K (tFld K (tVar 0) "parts")) (gName 3) (T_Parts_most_product_b1 K c))
    (tRet (tVar 2)))))
def P_Parts_most_product_b1 : PSt :=
    (pAsg (pOp pAdd (pOp pAdd (pVar 2) (pCal ps_inner (pCons (pFld (pVar 3) "centre") (pCons (pMt "Part" "cut" ps_Part_cut (pVar 3) (pCons (pVar 1) pNil)) pNil)))) (pCal ps_root (pCons (pOp pMul (pCal ps_norm (pCons (pMt "Part" "cut" ps_Part_cut (pVar 3) (pCons (pVar 1) pNil)) pNil)) (pFld (pVar 3) "radius")) pNil))) (pgName 2))
def P_Parts_most_product : PSt :=
    (pSeq (pIfS (pOr (pNot (pTru (pMt "Parts" "fits" ps_Parts_fits (pVar 0) (pCons (pVar 1) pNil)))) (pNot (pTru (pMt "Parts" "covers" ps_Parts_covers (pVar 0) (pCons (pCB pLen (pCons (pVar 1) pNil)) pNil))))) (pRet (pC .non)) pNext)
    (pSeq (pAsg (pC (.int 0)) (pgName 2))
    (pSeq (pFor (piSq (pFld (pVar 0) "parts")) (pgName 3) P_Parts_most_product_b1)
    (pRet (pVar 2)))))
theorem S_Parts_most_product {K : PySem.W.Frag} {c : CEnv} : SimS ⟨K, c, W0, fun _ _ => False⟩ (T_Parts_most_product K c) (P_Parts_most_product) := by
  unfold T_Parts_most_product P_Parts_most_product T_Parts_most_product_b1 P_Parts_most_product_b1
  exact (sim_seq (sim_ifS (sim_or (sim_not (sim_tru (sim_mt b_Parts_fits (sim_var 0) (sim_cons (sim_var 1) sim_nil)))) (sim_not (sim_tru (sim_mt b_Parts_covers (sim_var 0) (sim_cons (sim_cb sim_len (sim_cons (sim_var 1) sim_nil)) sim_nil))))) (sim_ret sim_non) sim_next)
    (sim_seq (sim_asg (sim_int _) (sim_gName 2))
    (sim_seq (sim_for (sim_iSq (sim_fld (sim_var 0))) (sim_gName 3) (sim_asg (sim_op sim_add (sim_op sim_add (sim_var 2) (sim_cal b_inner (sim_cons (sim_fld (sim_var 3)) (sim_cons (sim_mt b_Part_cut (sim_var 3) (sim_cons (sim_var 1) sim_nil)) sim_nil)))) (sim_cal b_root (sim_cons (sim_op sim_mul (sim_cal b_norm (sim_cons (sim_mt b_Part_cut (sim_var 3) (sim_cons (sim_var 1) sim_nil)) sim_nil)) (sim_fld (sim_var 3))) sim_nil))) (sim_gName 2)))
    (sim_ret (sim_var 2)))))

theorem q_Parts_most_product : ∀ ds Q E, ps_Parts_most_product ds Q E → ds.length = 2 ∧ P_Parts_most_product { nx := fun _ => Q .non, rt := Q } (startP 4 ds) := by
  rintro _ Q E ⟨l, v, z, rfl, sv, ok, okz, q⟩
  refine ⟨rfl, ?_⟩
  show P_Parts_most_product _ [some (.d (partsD l)), some (.d v), none, none]
  unfold P_Parts_most_product
  walk_at "pv"
  refine ⟨l, v, _, rfl, sv, ?_⟩
  rw [List.length_map]
  walk_at "pv"
  have ez : partsMp l z = if fitsP l z.length && coversP z.length 0 l then some (sumF (pprod z) l) else none := rfl
  cases c : fitsP l z.length with
  | false =>
    rw [c, Bool.false_and, if_neg (by decide)] at ez
    walk_at "pw"
    rw [ez] at q
    exact q
  | true =>
    rw [c, Bool.true_and] at ez
    walk_at "pw"
    refine p_lenSq sv ?_
    walk_at "pv"
    refine ⟨l, _, rfl, ?_⟩
    rw [List.length_map]
    walk_at "pv"
    cases c2 : coversP z.length 0 l with
    | false =>
      rw [c2, if_neg (by decide)] at ez
      walk_at "pw"
      rw [ez] at q
      exact q
    | true =>
      rw [c2, if_pos rfl] at ez
      walk_at "pw"
      refine p_loop (fun i ρ => ∃ x3, ρ = [some (.d (partsD l)), some (.d v), some (.d (.int (sumF (pprod z) (l.take i)))), x3]) ?_ ?_ ?_
      · exact ⟨_, rfl⟩
      · rintro i x ρ' hx ⟨x3, rfl⟩
        obtain ⟨p, hp, rfl⟩ := mapD_get hx
        obtain ⟨o1, o2, o3⟩ := ok p (List.mem_of_getElem? hp)
        have hi := fits_at c hp
        have hc := cutZ_bd (p := p) okz.1
        have hcl : (cutZ z p).length ≤ 100000 := by rw [cutZ_len hi]; exact o2
        unfold P_Parts_most_product_b1
        walk_at "pv"
        refine ⟨p, v, z, rfl, sv, hi, fun r sr => ?_⟩
        walk_at "pv"
        refine ⟨_, r, p.2.1, cutZ z p, rfl, .inr rfl, sr, (cutZ_len hi).symm, o1, hc, ?_⟩
        walk_at "pv"
        refine ⟨p, v, z, rfl, sv, hi, fun r2 sr2 => ?_⟩
        walk_at "pv"
        refine ⟨r2, cutZ z p, rfl, sr2, hc, ?_⟩
        walk_at "pv"
        refine p_mul (Short.mul (inner_short hcl hc hc) o3) ?_
        walk_at "pv"
        refine proot_c (short_mul (inner_short hcl hc hc) o3) ?_
        walk_at "pv"
        rw [sumF_take hp, pprod, ← Int.add_assoc]
        exact ⟨_, rfl⟩
      · rintro ρ' ⟨x3, rfl⟩
        rw [List.length_map, List.take_length]
        walk_at "pv"
        rw [ez] at q
        exact q
theorem w_Parts_most_product {K : PySem.W.Frag} {c : CEnv} : Wd (T_Parts_most_product K c) N_Parts_most_product 2 (sp_Parts_most_product K c) := wd_lift S_Parts_most_product q_Parts_most_product

local macro_rules | `(tactic| walk_at "pu") => `(tactic| (with_reducible first | refine p_istr ?_ | refine p_cstT ?_ | refine p_kout ?_ | refine p_kin ?_ | refine p_kst ?_ | refine p_ord ?_ | refine p_izip2 ?_ | refine p_izip3 ?_ | (refine p_zip2 (by first | exact seqL | exact seqT | assumption) (by first | exact seqL | exact seqT | assumption) ?_) | (refine p_zip3 (by first | exact seqL | exact seqT | assumption) (by first | exact seqL | exact seqT | assumption) (by first | exact seqL | exact seqT | assumption) ?_) | (refine p_lenS (by omega) ?_)))
local macro_rules | `(tactic| walk_at "pv") => `(tactic| repeat (first | walk_at "p1" | walk_at "pu"))
local macro_rules | `(tactic| walk_at "pw") => `(tactic| repeat (first | walk_at "p1" | walk_at "pu" | walk_at "pd"))

def fit2 (a b : List Int) (n : Nat) : Bool := decide (a.length = n) && decide (b.length = n)
theorem fit2_of {a b : List Int} {n : Nat} (h : fit2 a b n = true) : a.length = n ∧ b.length = n := by unfold fit2 at h; simpa using h
/-! Cell_init -/
def ps_Cell_init : PSi := fun ds Q _ => ∃ v l v2 l2, ds = [v, v2] ∧ seqD v l ∧ seqD v2 l2 ∧ Q [.tup l, .tup l2]
def sp_Cell_init (K : PySem.W.Frag) (c : CEnv) : Sp := liftI K c "Cell" CLK ps_Cell_init
theorem b_Cell_init {K : PySem.W.Frag} {c : CEnv} : SpSimI K c "Cell" CLK (sp_Cell_init K c) ps_Cell_init := spSimI_lift
abbrev N_Cell_init : List Str := ["self", "near", "rival"]
-- Cell.__init__(self, near, rival): slots 0:self 1:near 2:rival
def T_Cell_init (K : PySem.W.Frag) : TS :=
    (tSeq (sFld K (tVar 0) (tCB (uTuple K) (tCons (tVar 1) tNil)) "near")
    (sFld K (tVar 0) (tCB (uTuple K) (tCons (tVar 2) tNil)) "rival"))
def P_Cell_init : PSt :=
    (pSeq (pSetF 0 "near" (pCB pTuple (pCons (pVar 1) pNil)))
    (pSetF 0 "rival" (pCB pTuple (pCons (pVar 2) pNil))))
theorem S_Cell_init {K : PySem.W.Frag} {c : CEnv} : SimS ⟨K, c, W0, fun _ _ => False⟩ (T_Cell_init K) (P_Cell_init) := by
  unfold T_Cell_init P_Cell_init
  exact (sim_seq (sim_setF (sim_cb sim_tuple (sim_cons (sim_var 1) sim_nil)))
    (sim_setF (sim_cb sim_tuple (sim_cons (sim_var 2) sim_nil))))

theorem q_Cell_init : ∀ ds Q E, ps_Cell_init ds Q E → ds.length + 1 = 3 ∧ P_Cell_init { nx := endI "Cell" CLK Q, rt := fun _ => False } (startI "Cell" CLK 3 ds) := by
  rintro _ Q E ⟨v, l, v2, l2, rfl, sv, sv2, q⟩
  refine ⟨rfl, ?_⟩
  unfold P_Cell_init startI startP
  walk_at "pv"
  refine p_tupleS sv ?_
  walk_at "pv"
  refine p_tupleS sv2 ?_
  walk_at "pv"
  exact ⟨_, rfl, q⟩
theorem w_Cell_init {K : PySem.W.Frag} {c : CEnv} : Wd (T_Cell_init K) N_Cell_init 3 (sp_Cell_init K c) := wd_liftI S_Cell_init (by decide) q_Cell_init
/-! Box_init -/
def ps_Box_init : PSi := fun ds Q _ => ∃ v l v2 l2, ds = [v, v2] ∧ seqD v l ∧ seqD v2 l2 ∧ Q [.tup l, .tup l2]
def sp_Box_init (K : PySem.W.Frag) (c : CEnv) : Sp := liftI K c "Box" BXK ps_Box_init
theorem b_Box_init {K : PySem.W.Frag} {c : CEnv} : SpSimI K c "Box" BXK (sp_Box_init K c) ps_Box_init := spSimI_lift
abbrev N_Box_init : List Str := ["self", "low", "high"]
-- Box.__init__(self, low, high): slots 0:self 1:low 2:high
def T_Box_init (K : PySem.W.Frag) : TS :=
    (tSeq (sFld K (tVar 0) (tCB (uTuple K) (tCons (tVar 1) tNil)) "low")
    (sFld K (tVar 0) (tCB (uTuple K) (tCons (tVar 2) tNil)) "high"))
def P_Box_init : PSt :=
    (pSeq (pSetF 0 "low" (pCB pTuple (pCons (pVar 1) pNil)))
    (pSetF 0 "high" (pCB pTuple (pCons (pVar 2) pNil))))
theorem S_Box_init {K : PySem.W.Frag} {c : CEnv} : SimS ⟨K, c, W0, fun _ _ => False⟩ (T_Box_init K) (P_Box_init) := by
  unfold T_Box_init P_Box_init
  exact (sim_seq (sim_setF (sim_cb sim_tuple (sim_cons (sim_var 1) sim_nil)))
    (sim_setF (sim_cb sim_tuple (sim_cons (sim_var 2) sim_nil))))

theorem q_Box_init : ∀ ds Q E, ps_Box_init ds Q E → ds.length + 1 = 3 ∧ P_Box_init { nx := endI "Box" BXK Q, rt := fun _ => False } (startI "Box" BXK 3 ds) := by
  rintro _ Q E ⟨v, l, v2, l2, rfl, sv, sv2, q⟩
  refine ⟨rfl, ?_⟩
  unfold P_Box_init startI startP
  walk_at "pv"
  refine p_tupleS sv ?_
  walk_at "pv"
  refine p_tupleS sv2 ?_
  walk_at "pv"
  exact ⟨_, rfl, q⟩
theorem w_Box_init {K : PySem.W.Frag} {c : CEnv} : Wd (T_Box_init K) N_Box_init 3 (sp_Box_init K c) := wd_liftI S_Box_init (by decide) q_Box_init
/-! Norms_init -/
def ps_Norms_init : PSi := fun ds Q _ => ∃ a b, ds = [a, b] ∧ Q [a, b]
def sp_Norms_init (K : PySem.W.Frag) (c : CEnv) : Sp := liftI K c "Norms" NMK ps_Norms_init
theorem b_Norms_init {K : PySem.W.Frag} {c : CEnv} : SpSimI K c "Norms" NMK (sp_Norms_init K c) ps_Norms_init := spSimI_lift
abbrev N_Norms_init : List Str := ["self", "low", "high"]
-- Norms.__init__(self, low, high): slots 0:self 1:low 2:high
def T_Norms_init (K : PySem.W.Frag) : TS :=
    (tSeq (sFld K (tVar 0) (tVar 1) "low")
    (sFld K (tVar 0) (tVar 2) "high"))
def P_Norms_init : PSt :=
    (pSeq (pSetF 0 "low" (pVar 1))
    (pSetF 0 "high" (pVar 2)))
theorem S_Norms_init {K : PySem.W.Frag} {c : CEnv} : SimS ⟨K, c, W0, fun _ _ => False⟩ (T_Norms_init K) (P_Norms_init) := by
  unfold T_Norms_init P_Norms_init
  exact (sim_seq (sim_setF (sim_var 1))
    (sim_setF (sim_var 2)))

theorem q_Norms_init : ∀ ds Q E, ps_Norms_init ds Q E → ds.length + 1 = 3 ∧ P_Norms_init { nx := endI "Norms" NMK Q, rt := fun _ => False } (startI "Norms" NMK 3 ds) := by
  rintro _ Q E ⟨a, b, rfl, q⟩
  refine ⟨rfl, ?_⟩
  unfold P_Norms_init startI startP
  walk_at "pv"
  
  exact ⟨_, rfl, q⟩
theorem w_Norms_init {K : PySem.W.Frag} {c : CEnv} : Wd (T_Norms_init K) N_Norms_init 3 (sp_Norms_init K c) := wd_liftI S_Norms_init (by decide) q_Norms_init
/-! Differ_init -/
def ps_Differ_init : PSi := fun ds Q _ => ∃ v l m, ds = [v, m] ∧ seqD v l ∧ Q [.tup l, m]
def sp_Differ_init (K : PySem.W.Frag) (c : CEnv) : Sp := liftI K c "Differ" DFK ps_Differ_init
theorem b_Differ_init {K : PySem.W.Frag} {c : CEnv} : SpSimI K c "Differ" DFK (sp_Differ_init K c) ps_Differ_init := spSimI_lift
abbrev N_Differ_init : List Str := ["self", "centre", "most"]
-- Differ.__init__(self, centre, most): slots 0:self 1:centre 2:most
def T_Differ_init (K : PySem.W.Frag) : TS :=
    (tSeq (sFld K (tVar 0) (tCB (uTuple K) (tCons (tVar 1) tNil)) "centre")
    (sFld K (tVar 0) (tVar 2) "most"))
def P_Differ_init : PSt :=
    (pSeq (pSetF 0 "centre" (pCB pTuple (pCons (pVar 1) pNil)))
    (pSetF 0 "most" (pVar 2)))
theorem S_Differ_init {K : PySem.W.Frag} {c : CEnv} : SimS ⟨K, c, W0, fun _ _ => False⟩ (T_Differ_init K) (P_Differ_init) := by
  unfold T_Differ_init P_Differ_init
  exact (sim_seq (sim_setF (sim_cb sim_tuple (sim_cons (sim_var 1) sim_nil)))
    (sim_setF (sim_var 2)))

theorem q_Differ_init : ∀ ds Q E, ps_Differ_init ds Q E → ds.length + 1 = 3 ∧ P_Differ_init { nx := endI "Differ" DFK Q, rt := fun _ => False } (startI "Differ" DFK 3 ds) := by
  rintro _ Q E ⟨v, l, m, rfl, sv, q⟩
  refine ⟨rfl, ?_⟩
  unfold P_Differ_init startI startP
  walk_at "pv"
  refine p_tupleS sv ?_
  walk_at "pv"
  exact ⟨_, rfl, q⟩
theorem w_Differ_init {K : PySem.W.Frag} {c : CEnv} : Wd (T_Differ_init K) N_Differ_init 3 (sp_Differ_init K c) := wd_liftI S_Differ_init (by decide) q_Differ_init
/-! Cell_fits -/
def ps_Cell_fits : PSp := fun ds Q _ => ∃ (a b : List Int) (v : Da) (q : List Da), ds = [cellD a b, v] ∧ seqD v q ∧ Q (.bl (fit2 a b q.length))
def sp_Cell_fits (K : PySem.W.Frag) (c : CEnv) : Sp := lift K c ps_Cell_fits
theorem b_Cell_fits {K : PySem.W.Frag} {c : CEnv} : SpSim K c (sp_Cell_fits K c) ps_Cell_fits := spSim_lift
abbrev N_Cell_fits : List Str := ["self", "q"]
-- Cell.fits(self, q): slots 0:self 1:q
def T_Cell_fits (K : PySem.W.Frag) : TS :=
    (tRet (tAndV (tOp (uEq K) (tCB (uLen K) (tCons (tFld K (tVar 0) "near") tNil)) (tCB (uLen K) (tCons (tVar 1) tNil))) (tOp (uEq K) (tCB (uLen K) (tCons (tFld K (tVar 0) "rival") tNil)) (tCB (uLen K) (tCons (tVar 1) tNil)))))
def P_Cell_fits : PSt :=
    (pRet (pAndV (pOp pEq (pCB pLen (pCons (pFld (pVar 0) "near") pNil)) (pCB pLen (pCons (pVar 1) pNil))) (pOp pEq (pCB pLen (pCons (pFld (pVar 0) "rival") pNil)) (pCB pLen (pCons (pVar 1) pNil)))))
theorem S_Cell_fits {K : PySem.W.Frag} {c : CEnv} : SimS ⟨K, c, W0, fun _ _ => False⟩ (T_Cell_fits K) (P_Cell_fits) := by
  unfold T_Cell_fits P_Cell_fits
  exact (sim_ret (sim_andV (sim_op sim_eq (sim_cb sim_len (sim_cons (sim_fld (sim_var 0)) sim_nil)) (sim_cb sim_len (sim_cons (sim_var 1) sim_nil))) (sim_op sim_eq (sim_cb sim_len (sim_cons (sim_fld (sim_var 0)) sim_nil)) (sim_cb sim_len (sim_cons (sim_var 1) sim_nil)))))

theorem q_Cell_fits : ∀ ds Q E, ps_Cell_fits ds Q E → ds.length = 2 ∧ P_Cell_fits { nx := fun _ => Q .non, rt := Q } (startP 2 ds) := by
  rintro _ Q E ⟨a, b, v, z, rfl, sv, q⟩
  refine ⟨rfl, ?_⟩
  show P_Cell_fits _ [some (.d (cellD a b)), some (.d v)]
  unfold P_Cell_fits
  walk_at "pv"
  refine p_lenSq sv ?_
  walk_at "pv"
  rw [List.length_map]
  unfold fit2 at q
  cases c : decide (a.length = z.length) with
  | false =>
    rw [show decide ((a.length : Int) = z.length) = false by rw [← c]; exact decide_eq_decide.mpr (by omega)]
    walk_at "pw"
    rw [c] at q
    exact q
  | true =>
    rw [show decide ((a.length : Int) = z.length) = true by rw [← c]; exact decide_eq_decide.mpr (by omega)]
    walk_at "pw"
    refine p_lenSq sv ?_
    walk_at "pv"
    rw [List.length_map]
    rw [show decide ((b.length : Int) = z.length) = decide (b.length = z.length) from decide_eq_decide.mpr (by omega)]
    rw [c, Bool.true_and] at q
    exact q
theorem w_Cell_fits {K : PySem.W.Frag} {c : CEnv} : Wd (T_Cell_fits K) N_Cell_fits 2 (sp_Cell_fits K c) := wd_lift S_Cell_fits q_Cell_fits
/-! Box_fits -/
def ps_Box_fits : PSp := fun ds Q _ => ∃ (a b : List Int) (v : Da) (q : List Da), ds = [boxD a b, v] ∧ seqD v q ∧ Q (.bl (fit2 a b q.length))
def sp_Box_fits (K : PySem.W.Frag) (c : CEnv) : Sp := lift K c ps_Box_fits
theorem b_Box_fits {K : PySem.W.Frag} {c : CEnv} : SpSim K c (sp_Box_fits K c) ps_Box_fits := spSim_lift
abbrev N_Box_fits : List Str := ["self", "q"]
-- Box.fits(self, q): slots 0:self 1:q
def T_Box_fits (K : PySem.W.Frag) : TS :=
    (tRet (tAndV (tOp (uEq K) (tCB (uLen K) (tCons (tFld K (tVar 0) "low") tNil)) (tCB (uLen K) (tCons (tVar 1) tNil))) (tOp (uEq K) (tCB (uLen K) (tCons (tFld K (tVar 0) "high") tNil)) (tCB (uLen K) (tCons (tVar 1) tNil)))))
def P_Box_fits : PSt :=
    (pRet (pAndV (pOp pEq (pCB pLen (pCons (pFld (pVar 0) "low") pNil)) (pCB pLen (pCons (pVar 1) pNil))) (pOp pEq (pCB pLen (pCons (pFld (pVar 0) "high") pNil)) (pCB pLen (pCons (pVar 1) pNil)))))
theorem S_Box_fits {K : PySem.W.Frag} {c : CEnv} : SimS ⟨K, c, W0, fun _ _ => False⟩ (T_Box_fits K) (P_Box_fits) := by
  unfold T_Box_fits P_Box_fits
  exact (sim_ret (sim_andV (sim_op sim_eq (sim_cb sim_len (sim_cons (sim_fld (sim_var 0)) sim_nil)) (sim_cb sim_len (sim_cons (sim_var 1) sim_nil))) (sim_op sim_eq (sim_cb sim_len (sim_cons (sim_fld (sim_var 0)) sim_nil)) (sim_cb sim_len (sim_cons (sim_var 1) sim_nil)))))

theorem q_Box_fits : ∀ ds Q E, ps_Box_fits ds Q E → ds.length = 2 ∧ P_Box_fits { nx := fun _ => Q .non, rt := Q } (startP 2 ds) := by
  rintro _ Q E ⟨a, b, v, z, rfl, sv, q⟩
  refine ⟨rfl, ?_⟩
  show P_Box_fits _ [some (.d (boxD a b)), some (.d v)]
  unfold P_Box_fits
  walk_at "pv"
  refine p_lenSq sv ?_
  walk_at "pv"
  rw [List.length_map]
  unfold fit2 at q
  cases c : decide (a.length = z.length) with
  | false =>
    rw [show decide ((a.length : Int) = z.length) = false by rw [← c]; exact decide_eq_decide.mpr (by omega)]
    walk_at "pw"
    rw [c] at q
    exact q
  | true =>
    rw [show decide ((a.length : Int) = z.length) = true by rw [← c]; exact decide_eq_decide.mpr (by omega)]
    walk_at "pw"
    refine p_lenSq sv ?_
    walk_at "pv"
    rw [List.length_map]
    rw [show decide ((b.length : Int) = z.length) = decide (b.length = z.length) from decide_eq_decide.mpr (by omega)]
    rw [c, Bool.true_and] at q
    exact q
theorem w_Box_fits {K : PySem.W.Frag} {c : CEnv} : Wd (T_Box_fits K) N_Box_fits 2 (sp_Box_fits K c) := wd_lift S_Box_fits q_Box_fits

def cellLd (a b q : List Int) : Int := if fit2 a b q.length then splitZ (distZ q a) (distZ q b) (distZ a b) else 0
theorem dist_mid {a b : List Int} (hl : a.length ≤ 100000) (h1 : Bd VM a) (h2 : Bd VM b) : Mid (distZ a b) := by
  have z := distZ_le h1 h2
  have n := distZ_nn a b
  have e1 : (a.length : Int) * (4 * (VM * VM)) ≤ 100000 * (4 * (VM * VM)) := Int.mul_le_mul_of_nonneg_right (by omega) (by decide)
  have e2 : (4 : Int) * (VM * VM) = 40000000000000000000000000000000000 := by decide
  refine Mid.of (b := 140) ?_ (by decide)
  have : (10000000000000000000000000000000000000000 : Nat) < 2 ^ 140 := by decide
  omega
/-! Cell_least_distance -/
def ps_Cell_least_distance : PSp := fun ds Q _ => ∃ (a b : List Int) (v : Da) (q : List Int), ds = [cellD a b, v] ∧ seqD v (iD q) ∧ VOk a ∧ VOk b ∧ VOk q ∧ Q (.int (cellLd a b q))
def sp_Cell_least_distance (K : PySem.W.Frag) (c : CEnv) : Sp := lift K c ps_Cell_least_distance
theorem b_Cell_least_distance {K : PySem.W.Frag} {c : CEnv} : SpSim K c (sp_Cell_least_distance K c) ps_Cell_least_distance := spSim_lift
abbrev N_Cell_least_distance : List Str := ["self", "q"]
-- Cell.least_distance(self, q): slots 0:self 1:q
def T_Cell_least_distance (K : PySem.W.Frag) (c : CEnv) : TS :=
    (tSeq (tIfS (tNot (tTru K (tMt c "Cell" "fits" (sp_Cell_fits K c) (tVar 0) (tCons (tVar 1) tNil)))) (tRet (tC (.int 0))) tNext)
    (tRet (tCal (sp_split K) (tCons (tCal (sp_distance K c) (tCons (tVar 1) (tCons (tFld K (tVar 0) "near") tNil))) (tCons (tCal (sp_distance K c) (tCons (tVar 1) (tCons (tFld K (tVar 0) "rival") tNil))) (tCons (tCal (sp_distance K c) (tCons (tFld K (tVar 0) "near") (tCons (tFld K (tVar 0) "rival") tNil))) tNil))))))
def P_Cell_least_distance : PSt :=
    (pSeq (pIfS (pNot (pTru (pMt "Cell" "fits" ps_Cell_fits (pVar 0) (pCons (pVar 1) pNil)))) (pRet (pC (.int 0))) pNext)
    (pRet (pCal ps_split (pCons (pCal ps_distance (pCons (pVar 1) (pCons (pFld (pVar 0) "near") pNil))) (pCons (pCal ps_distance (pCons (pVar 1) (pCons (pFld (pVar 0) "rival") pNil))) (pCons (pCal ps_distance (pCons (pFld (pVar 0) "near") (pCons (pFld (pVar 0) "rival") pNil))) pNil))))))
theorem S_Cell_least_distance {K : PySem.W.Frag} {c : CEnv} : SimS ⟨K, c, W0, fun _ _ => False⟩ (T_Cell_least_distance K c) (P_Cell_least_distance) := by
  unfold T_Cell_least_distance P_Cell_least_distance
  exact (sim_seq (sim_ifS (sim_not (sim_tru (sim_mt b_Cell_fits (sim_var 0) (sim_cons (sim_var 1) sim_nil)))) (sim_ret (sim_int _)) sim_next)
    (sim_ret (sim_cal b_split (sim_cons (sim_cal b_distance (sim_cons (sim_var 1) (sim_cons (sim_fld (sim_var 0)) sim_nil))) (sim_cons (sim_cal b_distance (sim_cons (sim_var 1) (sim_cons (sim_fld (sim_var 0)) sim_nil))) (sim_cons (sim_cal b_distance (sim_cons (sim_fld (sim_var 0)) (sim_cons (sim_fld (sim_var 0)) sim_nil))) sim_nil))))))

theorem q_Cell_least_distance : ∀ ds Q E, ps_Cell_least_distance ds Q E → ds.length = 2 ∧ P_Cell_least_distance { nx := fun _ => Q .non, rt := Q } (startP 2 ds) := by
  rintro _ Q E ⟨a, b, v, z, rfl, sv, oa, ob, oz, q⟩
  refine ⟨rfl, ?_⟩
  show P_Cell_least_distance _ [some (.d (cellD a b)), some (.d v)]
  unfold P_Cell_least_distance
  walk_at "pv"
  refine ⟨a, b, v, _, rfl, sv, ?_⟩
  rw [List.length_map]
  walk_at "pv"
  have ez : cellLd a b z = if fit2 a b z.length then splitZ (distZ z a) (distZ z b) (distZ a b) else 0 := rfl
  cases c : fit2 a b z.length with
  | false =>
    rw [c, if_neg (by decide)] at ez
    walk_at "pw"
    rw [ez] at q
    exact q
  | true =>
    rw [c, if_pos rfl] at ez
    obtain ⟨l1, l2⟩ := fit2_of c
    walk_at "pw"
    refine ⟨v, _, z, a, rfl, sv, .inr rfl, l1.symm, oz.1, oa.1, ?_⟩
    walk_at "pv"
    refine ⟨v, _, z, b, rfl, sv, .inr rfl, l2.symm, oz.1, ob.1, ?_⟩
    walk_at "pv"
    refine ⟨_, _, a, b, rfl, .inr rfl, .inr rfl, l1.trans l2.symm, oa.1, ob.1, ?_⟩
    walk_at "pv"
    refine ⟨_, _, _, rfl, dist_mid oz.2 oz.1 oa.1, dist_mid oz.2 oz.1 ob.1, dist_mid oa.2 oa.1 ob.1, distZ_nn _ _, ?_⟩
    rw [ez] at q
    exact q
theorem w_Cell_least_distance {K : PySem.W.Frag} {c : CEnv} : Wd (T_Cell_least_distance K c) N_Cell_least_distance 2 (sp_Cell_least_distance K c) := wd_lift S_Cell_least_distance q_Cell_least_distance

theorem zip3_ints {a b c : List Int} {i : Nat} {x : Da} (h : (zip3D (iD a) (iD b) (iD c))[i]? = some x) : i < a.length ∧ i < b.length ∧ i < c.length ∧ x = .tup [.int (a.getD i 0), .int (b.getD i 0), .int (c.getD i 0)] := by
  obtain ⟨u, v, w, hu, hv, hw, rfl⟩ := zip3D_get h
  rw [List.getElem?_map] at hu hv hw
  cases e1 : a[i]? with
  | none => rw [e1] at hu; cases hu
  | some t =>
  cases e2 : b[i]? with
  | none => rw [e2] at hv; cases hv
  | some y =>
  cases e3 : c[i]? with
  | none => rw [e3] at hw; cases hw
  | some z =>
  rw [e1] at hu; rw [e2] at hv; rw [e3] at hw
  cases hu; cases hv; cases hw
  refine ⟨(List.getElem?_eq_some_iff.mp e1).1, (List.getElem?_eq_some_iff.mp e2).1, (List.getElem?_eq_some_iff.mp e3).1, ?_⟩
  simp only [List.getD_eq_getElem?_getD, e1, e2, e3, Option.getD_some]
def box1 (n lo hi : Int) : Int := if n < lo then (lo - n) * (lo - n) else if hi < n then (n - hi) * (n - hi) else 0
def boxLd (a b q : List Int) : Int := if fit2 a b q.length then sumF (fun i => box1 (q.getD i 0) (a.getD i 0) (b.getD i 0)) (List.range q.length) else 0
def mx (a b : Int) : Int := if b > a then b else a
def boxMp (a b q : List Int) : Option Int := if fit2 a b q.length then some (sumF (fun i => mx (a.getD i 0 * q.getD i 0) (b.getD i 0 * q.getD i 0)) (List.range q.length)) else none
theorem vm_sq {x y : Int} (h1 : -VM ≤ x ∧ x ≤ VM) (h2 : -VM ≤ y ∧ y ≤ VM) : MulOk (x - y) (x - y) := by unfold VM at *; walk_at "mulok"
/-! Box_least_distance -/
def ps_Box_least_distance : PSp := fun ds Q _ => ∃ (a b : List Int) (v : Da) (q : List Int), ds = [boxD a b, v] ∧ seqD v (iD q) ∧ VOk a ∧ VOk b ∧ VOk q ∧ Q (.int (boxLd a b q))
def sp_Box_least_distance (K : PySem.W.Frag) (c : CEnv) : Sp := lift K c ps_Box_least_distance
theorem b_Box_least_distance {K : PySem.W.Frag} {c : CEnv} : SpSim K c (sp_Box_least_distance K c) ps_Box_least_distance := spSim_lift
abbrev N_Box_least_distance : List Str := ["self", "q", "total", "number", "low", "high"]
-- Box.least_distance(self, q): slots 0:self 1:q 2:total 3:number 4:low 5:high
def T_Box_least_distance_b1 (K : PySem.W.Frag) : TS :=
    (tIfS (tTest (tOp (uLt K) (tVar 3) (tVar 4))) (tAsg (tOp (uAdd K) (tVar 2) (tOp uMul (tOp uSub (tVar 4) (tVar 3)) (tOp uSub (tVar 4) (tVar 3)))) (gName 2)) (tIfS (tTest (tOp uGt (tVar 3) (tVar 5))) (tAsg (tOp (uAdd K) (tVar 2) (tOp uMul (tOp uSub (tVar 3) (tVar 5)) (tOp uSub (tVar 3) (tVar 5)))) (gName 2)) tNext))
def T_Box_least_distance (K : PySem.W.Frag) (c : CEnv) : TS :=
    (tSeq (tAsg (tC (.int 0)) (gName 2))
    (tCut (tIfS (tTru K (tMt c "Box" "fits" (sp_Box_fits K c) (tVar 0) (tCons (tVar 1) tNil))) (tFor (iZip3 K (tCons (tVar 1) (tCons (tFld K (tVar 0) "low") (tCons (tFld K (tVar 0) "high") tNil)))) (gTup K 3 (gCons (gName 3) (gCons (gName 4) (gCons (gName 5) gNil)))) (T_Box_least_distance_b1 K)) tNext)
    (tRet (tVar 2))))
def P_Box_least_distance_b1 : PSt :=
    (pIfS (pTest (pOp pLt (pVar 3) (pVar 4))) (pAsg (pOp pAdd (pVar 2) (pOp pMul (pOp pSub (pVar 4) (pVar 3)) (pOp pSub (pVar 4) (pVar 3)))) (pgName 2)) (pIfS (pTest (pOp pGt (pVar 3) (pVar 5))) (pAsg (pOp pAdd (pVar 2) (pOp pMul (pOp pSub (pVar 3) (pVar 5)) (pOp pSub (pVar 3) (pVar 5)))) (pgName 2)) pNext))
def P_Box_least_distance : PSt :=
    (pSeq (pAsg (pC (.int 0)) (pgName 2))
    (pCut (pIfS (pTru (pMt "Box" "fits" ps_Box_fits (pVar 0) (pCons (pVar 1) pNil))) (pFor (piZip3 (pCons (pVar 1) (pCons (pFld (pVar 0) "low") (pCons (pFld (pVar 0) "high") pNil)))) (pgTup 3 (pgCons (pgName 3) (pgCons (pgName 4) (pgCons (pgName 5) pgNil)))) P_Box_least_distance_b1) pNext)
    (pRet (pVar 2))))
theorem S_Box_least_distance {K : PySem.W.Frag} {c : CEnv} : SimS ⟨K, c, W0, fun _ _ => False⟩ (T_Box_least_distance K c) (P_Box_least_distance) := by
  unfold T_Box_least_distance P_Box_least_distance T_Box_least_distance_b1 P_Box_least_distance_b1
  exact (sim_seq (sim_asg (sim_int _) (sim_gName 2))
    (sim_cut (sim_ifS (sim_tru (sim_mt b_Box_fits (sim_var 0) (sim_cons (sim_var 1) sim_nil))) (sim_for (sim_iZip3 (sim_cons (sim_var 1) (sim_cons (sim_fld (sim_var 0)) (sim_cons (sim_fld (sim_var 0)) sim_nil)))) (sim_gTup (sim_gCons (sim_gName 3) (sim_gCons (sim_gName 4) (sim_gCons (sim_gName 5) sim_gNil)))) (sim_ifS (sim_test (sim_op sim_lt (sim_var 3) (sim_var 4))) (sim_asg (sim_op sim_add (sim_var 2) (sim_op sim_mul (sim_op sim_sub (sim_var 4) (sim_var 3)) (sim_op sim_sub (sim_var 4) (sim_var 3)))) (sim_gName 2)) (sim_ifS (sim_test (sim_op sim_gt (sim_var 3) (sim_var 5))) (sim_asg (sim_op sim_add (sim_var 2) (sim_op sim_mul (sim_op sim_sub (sim_var 3) (sim_var 5)) (sim_op sim_sub (sim_var 3) (sim_var 5)))) (sim_gName 2)) sim_next))) sim_next)
    (sim_ret (sim_var 2))))

theorem q_Box_least_distance : ∀ ds Q E, ps_Box_least_distance ds Q E → ds.length = 2 ∧ P_Box_least_distance { nx := fun _ => Q .non, rt := Q } (startP 6 ds) := by
  rintro _ Q E ⟨a, b, v, z, rfl, sv, oa, ob, oz, q⟩
  refine ⟨rfl, ?_⟩
  show P_Box_least_distance _ [some (.d (boxD a b)), some (.d v), none, none, none, none]
  unfold P_Box_least_distance
  walk_at "pv"
  refine p_cut (fun ρ => ∃ x3 x4 x5, ρ = [some (.d (boxD a b)), some (.d v), some (.d (.int (boxLd a b z))), x3, x4, x5]) ?_ ?_
  · walk_at "pv"
    refine ⟨a, b, v, _, rfl, sv, ?_⟩
    rw [List.length_map]
    walk_at "pv"
    have ez : boxLd a b z = if fit2 a b z.length then sumF (fun i => box1 (z.getD i 0) (a.getD i 0) (b.getD i 0)) (List.range z.length) else 0 := rfl
    cases c : fit2 a b z.length with
    | false =>
      rw [c, if_neg (by decide)] at ez
      walk_at "pw"
      rw [ez]
      exact ⟨_, _, _, rfl⟩
    | true =>
      rw [c, if_pos rfl] at ez
      obtain ⟨l1, l2⟩ := fit2_of c
      walk_at "pw"
      refine p_loop (fun i ρ => ∃ x3 x4 x5, ρ = [some (.d (boxD a b)), some (.d v), some (.d (.int (sumF (fun i => box1 (z.getD i 0) (a.getD i 0) (b.getD i 0)) (List.range i)))), x3, x4, x5]) ?_ ?_ ?_
      · exact ⟨_, _, _, rfl⟩
      · rintro i x ρ' hx ⟨x3, x4, x5, rfl⟩
        obtain ⟨g1, g2, g3, rfl⟩ := zip3_ints hx
        have u1 := oz.1.at g1
        have u2 := oa.1.at g2
        have u3 := ob.1.at g3
        unfold P_Box_least_distance_b1
        rw [sumF_range]
        walk_at "pv"
        refine z_itD (fun c => ?_) (fun c => ?_)
        · walk_at "pv"
          refine p_mul (vm_sq u2 u1) ?_
          walk_at "pv"
          rw [box1, if_pos c]
          exact ⟨_, _, _, rfl⟩
        · walk_at "pv"
          refine z_itD (fun c2 => ?_) (fun c2 => ?_)
          · walk_at "pv"
            refine p_mul (vm_sq u1 u3) ?_
            walk_at "pv"
            rw [box1, if_neg c, if_pos c2]
            exact ⟨_, _, _, rfl⟩
          · walk_at "pv"
            rw [box1, if_neg c, if_neg c2, Int.add_zero]
            exact ⟨_, _, _, rfl⟩
      · rintro ρ' ⟨x3, x4, x5, rfl⟩
        rw [zip3D_len, List.length_map, List.length_map, List.length_map, l1, l2, Nat.min_self, Nat.min_self, ← ez]
        exact ⟨_, _, _, rfl⟩
  · rintro ρ' ⟨x3, x4, x5, rfl⟩
    walk_at "pv"
    exact q
theorem w_Box_least_distance {K : PySem.W.Frag} {c : CEnv} : Wd (T_Box_least_distance K c) N_Box_least_distance 2 (sp_Box_least_distance K c) := wd_lift S_Box_least_distance q_Box_least_distance
/-! Box_most_product -/
def ps_Box_most_product : PSp := fun ds Q _ => ∃ (a b : List Int) (v : Da) (q : List Int), ds = [boxD a b, v] ∧ seqD v (iD q) ∧ VOk a ∧ VOk b ∧ VOk q ∧ Q (oI (boxMp a b q))
def sp_Box_most_product (K : PySem.W.Frag) (c : CEnv) : Sp := lift K c ps_Box_most_product
theorem b_Box_most_product {K : PySem.W.Frag} {c : CEnv} : SpSim K c (sp_Box_most_product K c) ps_Box_most_product := spSim_lift
abbrev N_Box_most_product : List Str := ["self", "q", "total", "number", "low", "high"]
-- Box.most_product(self, q): slots 0:self 1:q 2:total 3:number 4:low 5:high
def T_Box_most_product_b1 (K : PySem.W.Frag) : TS :=
    (tAsg (tOp (uAdd K) (tVar 2) (tCB uMax (tCons (tOp uMul (tVar 4) (tVar 3)) (tCons (tOp uMul (tVar 5) (tVar 3)) tNil)))) (gName 2))
def T_Box_most_product (K : PySem.W.Frag) (c : CEnv) : TS :=
    (tSeq (tIfS (tNot (tTru K (tMt c "Box" "fits" (sp_Box_fits K c) (tVar 0) (tCons (tVar 1) tNil)))) (tRet (tC .non)) tNext)
    (tSeq (tAsg (tC (.int 0)) (gName 2))
    (tSeq (tFor (iZip3 K (tCons (tVar 1) (tCons (tFld K (tVar 0) "low") (tCons (tFld K (tVar 0) "high") tNil)))) (gTup K 3 (gCons (gName 3) (gCons (gName 4) (gCons (gName 5) gNil)))) (T_Box_most_product_b1 K))
    (tRet (tVar 2)))))
def P_Box_most_product_b1 : PSt :=
    (pAsg (pOp pAdd (pVar 2) (pCB pMax (pCons (pOp pMul (pVar 4) (pVar 3)) (pCons (pOp pMul (pVar 5) (pVar 3)) pNil)))) (pgName 2))
def P_Box_most_product : PSt :=
    (pSeq (pIfS (pNot (pTru (pMt "Box" "fits" ps_Box_fits (pVar 0) (pCons (pVar 1) pNil)))) (pRet (pC .non)) pNext)
    (pSeq (pAsg (pC (.int 0)) (pgName 2))
    (pSeq (pFor (piZip3 (pCons (pVar 1) (pCons (pFld (pVar 0) "low") (pCons (pFld (pVar 0) "high") pNil)))) (pgTup 3 (pgCons (pgName 3) (pgCons (pgName 4) (pgCons (pgName 5) pgNil)))) P_Box_most_product_b1)
    (pRet (pVar 2)))))
theorem S_Box_most_product {K : PySem.W.Frag} {c : CEnv} : SimS ⟨K, c, W0, fun _ _ => False⟩ (T_Box_most_product K c) (P_Box_most_product) := by
  unfold T_Box_most_product P_Box_most_product T_Box_most_product_b1 P_Box_most_product_b1
  exact (sim_seq (sim_ifS (sim_not (sim_tru (sim_mt b_Box_fits (sim_var 0) (sim_cons (sim_var 1) sim_nil)))) (sim_ret sim_non) sim_next)
    (sim_seq (sim_asg (sim_int _) (sim_gName 2))
    (sim_seq (sim_for (sim_iZip3 (sim_cons (sim_var 1) (sim_cons (sim_fld (sim_var 0)) (sim_cons (sim_fld (sim_var 0)) sim_nil)))) (sim_gTup (sim_gCons (sim_gName 3) (sim_gCons (sim_gName 4) (sim_gCons (sim_gName 5) sim_gNil)))) (sim_asg (sim_op sim_add (sim_var 2) (sim_cb sim_max (sim_cons (sim_op sim_mul (sim_var 4) (sim_var 3)) (sim_cons (sim_op sim_mul (sim_var 5) (sim_var 3)) sim_nil)))) (sim_gName 2)))
    (sim_ret (sim_var 2)))))

theorem q_Box_most_product : ∀ ds Q E, ps_Box_most_product ds Q E → ds.length = 2 ∧ P_Box_most_product { nx := fun _ => Q .non, rt := Q } (startP 6 ds) := by
  rintro _ Q E ⟨a, b, v, z, rfl, sv, oa, ob, oz, q⟩
  refine ⟨rfl, ?_⟩
  show P_Box_most_product _ [some (.d (boxD a b)), some (.d v), none, none, none, none]
  unfold P_Box_most_product
  walk_at "pv"
  refine ⟨a, b, v, _, rfl, sv, ?_⟩
  rw [List.length_map]
  walk_at "pv"
  have ez : boxMp a b z = if fit2 a b z.length then some (sumF (fun i => mx (a.getD i 0 * z.getD i 0) (b.getD i 0 * z.getD i 0)) (List.range z.length)) else none := rfl
  cases c : fit2 a b z.length with
  | false =>
    rw [c, if_neg (by decide)] at ez
    walk_at "pw"
    rw [ez] at q
    exact q
  | true =>
    rw [c, if_pos rfl] at ez
    obtain ⟨l1, l2⟩ := fit2_of c
    walk_at "pw"
    refine p_loop (fun i ρ => ∃ x3 x4 x5, ρ = [some (.d (boxD a b)), some (.d v), some (.d (.int (sumF (fun i => mx (a.getD i 0 * z.getD i 0) (b.getD i 0 * z.getD i 0)) (List.range i)))), x3, x4, x5]) ?_ ?_ ?_
    · exact ⟨_, _, _, rfl⟩
    · rintro i x ρ' hx ⟨x3, x4, x5, rfl⟩
      obtain ⟨g1, g2, g3, rfl⟩ := zip3_ints hx
      have u1 := oz.1.at g1
      have u2 := oa.1.at g2
      have u3 := ob.1.at g3
      unfold P_Box_most_product_b1
      rw [sumF_range]
      walk_at "pv"
      refine p_mul (vm_mul u2) ?_
      walk_at "pv"
      refine p_mul (vm_mul u3) ?_
      walk_at "pv"
      exact ⟨_, _, _, rfl⟩
    · rintro ρ' ⟨x3, x4, x5, rfl⟩
      rw [zip3D_len, List.length_map, List.length_map, List.length_map, l1, l2, Nat.min_self, Nat.min_self]
      walk_at "pv"
      rw [ez] at q
      exact q
theorem w_Box_most_product {K : PySem.W.Frag} {c : CEnv} : Wd (T_Box_most_product K c) N_Box_most_product 2 (sp_Box_most_product K c) := wd_lift S_Box_most_product q_Box_most_product

def normsLd (a b : Int) (q : List Int) : Int := if b < innerZ q q then gapZ (innerZ q q) b else if innerZ q q < a then gapZ a (innerZ q q) else 0
/-! Norms_least_distance -/
def ps_Norms_least_distance : PSp := fun ds Q _ => ∃ (a b : Int) (v : Da) (q : List Int), ds = [normsD a b, v] ∧ seqD v (iD q) ∧ Short a ∧ Short b ∧ VOk q ∧ Q (.int (normsLd a b q))
def sp_Norms_least_distance (K : PySem.W.Frag) (c : CEnv) : Sp := lift K c ps_Norms_least_distance
theorem b_Norms_least_distance {K : PySem.W.Frag} {c : CEnv} : SpSim K c (sp_Norms_least_distance K c) ps_Norms_least_distance := spSim_lift
abbrev N_Norms_least_distance : List Str := ["self", "q", "length"]
-- Norms.least_distance(self, q): slots 0:self 1:q 2:length
def T_Norms_least_distance (K : PySem.W.Frag) (c : CEnv) : TS :=
    (tSeq (tAsg (tCal (sp_norm K c) (tCons (tVar 1) tNil)) (gName 2))
    (tSeq (tIfS (tTest (tOp (uLt K) (tFld K (tVar 0) "high") (tVar 2))) (tRet (tCal (sp_gap K) (tCons (tVar 2) (tCons (tFld K (tVar 0) "high") tNil)))) tNext)
    (tSeq (tIfS (tTest (tOp (uLt K) (tVar 2) (tFld K (tVar 0) "low"))) (tRet (tCal (sp_gap K) (tCons (tFld K (tVar 0) "low") (tCons (tVar 2) tNil)))) tNext)
    (tRet (tC (.int 0))))))
def P_Norms_least_distance : PSt :=
    (pSeq (pAsg (pCal ps_norm (pCons (pVar 1) pNil)) (pgName 2))
    (pSeq (pIfS (pTest (pOp pLt (pFld (pVar 0) "high") (pVar 2))) (pRet (pCal ps_gap (pCons (pVar 2) (pCons (pFld (pVar 0) "high") pNil)))) pNext)
    (pSeq (pIfS (pTest (pOp pLt (pVar 2) (pFld (pVar 0) "low"))) (pRet (pCal ps_gap (pCons (pFld (pVar 0) "low") (pCons (pVar 2) pNil)))) pNext)
    (pRet (pC (.int 0))))))
theorem S_Norms_least_distance {K : PySem.W.Frag} {c : CEnv} : SimS ⟨K, c, W0, fun _ _ => False⟩ (T_Norms_least_distance K c) (P_Norms_least_distance) := by
  unfold T_Norms_least_distance P_Norms_least_distance
  exact (sim_seq (sim_asg (sim_cal b_norm (sim_cons (sim_var 1) sim_nil)) (sim_gName 2))
    (sim_seq (sim_ifS (sim_test (sim_op sim_lt (sim_fld (sim_var 0)) (sim_var 2))) (sim_ret (sim_cal b_gap (sim_cons (sim_var 2) (sim_cons (sim_fld (sim_var 0)) sim_nil)))) sim_next)
    (sim_seq (sim_ifS (sim_test (sim_op sim_lt (sim_var 2) (sim_fld (sim_var 0)))) (sim_ret (sim_cal b_gap (sim_cons (sim_fld (sim_var 0)) (sim_cons (sim_var 2) sim_nil)))) sim_next)
    (sim_ret (sim_int _)))))

theorem q_Norms_least_distance : ∀ ds Q E, ps_Norms_least_distance ds Q E → ds.length = 2 ∧ P_Norms_least_distance { nx := fun _ => Q .non, rt := Q } (startP 3 ds) := by
  rintro _ Q E ⟨a, b, v, z, rfl, sv, oa, ob, oz, q⟩
  refine ⟨rfl, ?_⟩
  show P_Norms_least_distance _ [some (.d (normsD a b)), some (.d v), none]
  unfold P_Norms_least_distance
  walk_at "pv"
  refine ⟨v, z, rfl, sv, oz.1, ?_⟩
  walk_at "pv"
  have si := inner_short oz.2 oz.1 oz.1
  unfold normsLd at q
  refine z_itD (fun c => ?_) (fun c => ?_)
  · walk_at "pv"
    refine ⟨_, _, rfl, si, ob, ?_⟩
    rw [if_pos c] at q
    exact q
  · walk_at "pv"
    rw [if_neg c] at q
    refine z_itD (fun c2 => ?_) (fun c2 => ?_)
    · walk_at "pv"
      refine ⟨_, _, rfl, oa, si, ?_⟩
      rw [if_pos c2] at q
      exact q
    · walk_at "pv"
      rw [if_neg c2] at q
      exact q
theorem w_Norms_least_distance {K : PySem.W.Frag} {c : CEnv} : Wd (T_Norms_least_distance K c) N_Norms_least_distance 2 (sp_Norms_least_distance K c) := wd_lift S_Norms_least_distance q_Norms_least_distance
/-! Norms_most_product -/
def ps_Norms_most_product : PSp := fun ds Q _ => ∃ (a b : Int) (v : Da) (q : List Int), ds = [normsD a b, v] ∧ seqD v (iD q) ∧ Short b ∧ VOk q ∧ Q (.int (rootZ (innerZ q q * b)))
def sp_Norms_most_product (K : PySem.W.Frag) (c : CEnv) : Sp := lift K c ps_Norms_most_product
theorem b_Norms_most_product {K : PySem.W.Frag} {c : CEnv} : SpSim K c (sp_Norms_most_product K c) ps_Norms_most_product := spSim_lift
abbrev N_Norms_most_product : List Str := ["self", "q"]
-- Norms.most_product(self, q): slots 0:self 1:q
def T_Norms_most_product (K : PySem.W.Frag) (c : CEnv) : TS :=
    (tRet (tCal (sp_root K) (tCons (tOp uMul (tCal (sp_norm K c) (tCons (tVar 1) tNil)) (tFld K (tVar 0) "high")) tNil)))
def P_Norms_most_product : PSt :=
    (pRet (pCal ps_root (pCons (pOp pMul (pCal ps_norm (pCons (pVar 1) pNil)) (pFld (pVar 0) "high")) pNil)))
theorem S_Norms_most_product {K : PySem.W.Frag} {c : CEnv} : SimS ⟨K, c, W0, fun _ _ => False⟩ (T_Norms_most_product K c) (P_Norms_most_product) := by
  unfold T_Norms_most_product P_Norms_most_product
  exact (sim_ret (sim_cal b_root (sim_cons (sim_op sim_mul (sim_cal b_norm (sim_cons (sim_var 1) sim_nil)) (sim_fld (sim_var 0))) sim_nil)))

theorem q_Norms_most_product : ∀ ds Q E, ps_Norms_most_product ds Q E → ds.length = 2 ∧ P_Norms_most_product { nx := fun _ => Q .non, rt := Q } (startP 2 ds) := by
  rintro _ Q E ⟨a, b, v, z, rfl, sv, ob, oz, q⟩
  refine ⟨rfl, ?_⟩
  show P_Norms_most_product _ [some (.d (normsD a b)), some (.d v)]
  unfold P_Norms_most_product
  walk_at "pv"
  refine ⟨v, z, rfl, sv, oz.1, ?_⟩
  walk_at "pv"
  have si := inner_short oz.2 oz.1 oz.1
  refine p_mul (Short.mul si ob) ?_
  walk_at "pv"
  exact proot_c (short_mul si ob) q
theorem w_Norms_most_product {K : PySem.W.Frag} {c : CEnv} : Wd (T_Norms_most_product K c) N_Norms_most_product 2 (sp_Norms_most_product K c) := wd_lift S_Norms_most_product q_Norms_most_product

def differLd (a : List Int) (m : Int) (q : List Int) : Int := if a.length = q.length then (if diffZ a q - m > 0 then diffZ a q - m else 0) else 0
/-! Differ_least_differing -/
def ps_Differ_least_differing : PSp := fun ds Q _ => ∃ (a : List Int) (m : Int) (v : Da) (q : List Int), ds = [differD a m, v] ∧ seqD v (iD q) ∧ VOk a ∧ VOk q ∧ Q (.int (differLd a m q))
def sp_Differ_least_differing (K : PySem.W.Frag) (c : CEnv) : Sp := lift K c ps_Differ_least_differing
theorem b_Differ_least_differing {K : PySem.W.Frag} {c : CEnv} : SpSim K c (sp_Differ_least_differing K c) ps_Differ_least_differing := spSim_lift
abbrev N_Differ_least_differing : List Str := ["self", "q"]
-- Differ.least_differing(self, q): slots 0:self 1:q
def T_Differ_least_differing (K : PySem.W.Frag) (c : CEnv) : TS :=
    (tSeq (tIfS (tTest (tOp (uNe K) (tCB (uLen K) (tCons (tFld K (tVar 0) "centre") tNil)) (tCB (uLen K) (tCons (tVar 1) tNil)))) (tRet (tC (.int 0))) tNext)
    (tRet (tCB uMax (tCons (tC (.int 0)) (tCons (tOp uSub (tCal (sp_differing K c) (tCons (tFld K (tVar 0) "centre") (tCons (tVar 1) tNil))) (tFld K (tVar 0) "most")) tNil)))))
def P_Differ_least_differing : PSt :=
    (pSeq (pIfS (pTest (pOp pNe (pCB pLen (pCons (pFld (pVar 0) "centre") pNil)) (pCB pLen (pCons (pVar 1) pNil)))) (pRet (pC (.int 0))) pNext)
    (pRet (pCB pMax (pCons (pC (.int 0)) (pCons (pOp pSub (pCal ps_differing (pCons (pFld (pVar 0) "centre") (pCons (pVar 1) pNil))) (pFld (pVar 0) "most")) pNil)))))
theorem S_Differ_least_differing {K : PySem.W.Frag} {c : CEnv} : SimS ⟨K, c, W0, fun _ _ => False⟩ (T_Differ_least_differing K c) (P_Differ_least_differing) := by
  unfold T_Differ_least_differing P_Differ_least_differing
  exact (sim_seq (sim_ifS (sim_test (sim_op sim_ne (sim_cb sim_len (sim_cons (sim_fld (sim_var 0)) sim_nil)) (sim_cb sim_len (sim_cons (sim_var 1) sim_nil)))) (sim_ret (sim_int _)) sim_next)
    (sim_ret (sim_cb sim_max (sim_cons (sim_int _) (sim_cons (sim_op sim_sub (sim_cal b_differing (sim_cons (sim_fld (sim_var 0)) (sim_cons (sim_var 1) sim_nil))) (sim_fld (sim_var 0))) sim_nil)))))

theorem q_Differ_least_differing : ∀ ds Q E, ps_Differ_least_differing ds Q E → ds.length = 2 ∧ P_Differ_least_differing { nx := fun _ => Q .non, rt := Q } (startP 2 ds) := by
  rintro _ Q E ⟨a, m, v, z, rfl, sv, oa, oz, q⟩
  refine ⟨rfl, ?_⟩
  show P_Differ_least_differing _ [some (.d (differD a m)), some (.d v)]
  unfold P_Differ_least_differing
  walk_at "pv"
  refine p_lenSq sv ?_
  walk_at "pv"
  rw [List.length_map, List.length_map]
  unfold differLd at q
  refine z_itN (fun c => ?_) (fun c => ?_)
  · walk_at "pv"
    rw [if_neg (by omega)] at q
    exact q
  · walk_at "pv"
    have hl : a.length = z.length := by omega
    rw [if_pos hl] at q
    refine ⟨_, v, a, z, rfl, .inr rfl, sv, hl, oa.1, oz.1, ?_⟩
    walk_at "pv"
    exact q
theorem w_Differ_least_differing {K : PySem.W.Frag} {c : CEnv} : Wd (T_Differ_least_differing K c) N_Differ_least_differing 2 (sp_Differ_least_differing K c) := wd_lift S_Differ_least_differing q_Differ_least_differing
/-! Fact_least_distance -/
def ps_Fact_least_distance : PSp := fun ds Q _ => ∃ d v, ds = [d, v] ∧ Q (.int 0)
def sp_Fact_least_distance (K : PySem.W.Frag) (c : CEnv) : Sp := lift K c ps_Fact_least_distance
theorem b_Fact_least_distance {K : PySem.W.Frag} {c : CEnv} : SpSim K c (sp_Fact_least_distance K c) ps_Fact_least_distance := spSim_lift
abbrev N_Fact_least_distance : List Str := ["self", "q"]
-- Fact.least_distance(self, q): slots 0:self 1:q
def T_Fact_least_distance (K : PySem.W.Frag) : TS :=
    (tRet (tC (.int 0)))
def P_Fact_least_distance : PSt :=
    (pRet (pC (.int 0)))
theorem S_Fact_least_distance {K : PySem.W.Frag} {c : CEnv} : SimS ⟨K, c, W0, fun _ _ => False⟩ (T_Fact_least_distance K) (P_Fact_least_distance) := by
  unfold T_Fact_least_distance P_Fact_least_distance
  exact (sim_ret (sim_int _))

theorem q_Fact_least_distance : ∀ ds Q E, ps_Fact_least_distance ds Q E → ds.length = 2 ∧ P_Fact_least_distance { nx := fun _ => Q .non, rt := Q } (startP 2 ds) := by
  rintro _ Q E ⟨d, v, rfl, q⟩
  refine ⟨rfl, ?_⟩
  show P_Fact_least_distance _ [some (.d d), some (.d v)]
  unfold P_Fact_least_distance
  walk_at "pv"
  exact q
theorem w_Fact_least_distance {K : PySem.W.Frag} {c : CEnv} : Wd (T_Fact_least_distance K) N_Fact_least_distance 2 (sp_Fact_least_distance K c) := wd_lift S_Fact_least_distance q_Fact_least_distance
/-! Fact_most_product -/
def ps_Fact_most_product : PSp := fun ds Q _ => ∃ d v, ds = [d, v] ∧ Q .non
def sp_Fact_most_product (K : PySem.W.Frag) (c : CEnv) : Sp := lift K c ps_Fact_most_product
theorem b_Fact_most_product {K : PySem.W.Frag} {c : CEnv} : SpSim K c (sp_Fact_most_product K c) ps_Fact_most_product := spSim_lift
abbrev N_Fact_most_product : List Str := ["self", "q"]
-- Fact.most_product(self, q): slots 0:self 1:q
def T_Fact_most_product (K : PySem.W.Frag) : TS :=
    (tRet (tC .non))
def P_Fact_most_product : PSt :=
    (pRet (pC .non))
theorem S_Fact_most_product {K : PySem.W.Frag} {c : CEnv} : SimS ⟨K, c, W0, fun _ _ => False⟩ (T_Fact_most_product K) (P_Fact_most_product) := by
  unfold T_Fact_most_product P_Fact_most_product
  exact (sim_ret sim_non)

theorem q_Fact_most_product : ∀ ds Q E, ps_Fact_most_product ds Q E → ds.length = 2 ∧ P_Fact_most_product { nx := fun _ => Q .non, rt := Q } (startP 2 ds) := by
  rintro _ Q E ⟨d, v, rfl, q⟩
  refine ⟨rfl, ?_⟩
  show P_Fact_most_product _ [some (.d d), some (.d v)]
  unfold P_Fact_most_product
  walk_at "pv"
  exact q
theorem w_Fact_most_product {K : PySem.W.Frag} {c : CEnv} : Wd (T_Fact_most_product K) N_Fact_most_product 2 (sp_Fact_most_product K c) := wd_lift S_Fact_most_product q_Fact_most_product

local macro_rules | `(tactic| walk_at "pu") => `(tactic| (with_reducible first | refine p_istr ?_ | refine p_cstT ?_ | refine p_kout ?_ | refine p_kin ?_ | refine p_kst ?_ | refine p_ord ?_ | refine p_izip2 ?_ | refine p_izip3 ?_ | (refine p_zip2 (by first | exact seqL | exact seqT | assumption) (by first | exact seqL | exact seqT | assumption) ?_) | (refine p_zip3 (by first | exact seqL | exact seqT | assumption) (by first | exact seqL | exact seqT | assumption) (by first | exact seqL | exact seqT | assumption) ?_) | (refine p_lenS (by omega) ?_)))
local macro_rules | `(tactic| walk_at "pv") => `(tactic| repeat (first | walk_at "p1" | walk_at "pu"))
local macro_rules | `(tactic| walk_at "pw") => `(tactic| repeat (first | walk_at "p1" | walk_at "pu" | walk_at "pd"))

/-! laws about facts of vectors: helpers -/
theorem p_ixS {v d : Da} {l : List Da} {i : Int} {Q : Da → Prop} (h : seqD v l) (e : atI l i = some d) (k : Q d) : pIx v (.int i) Q := by rcases h with rfl | rfl <;> exact ⟨d, e, k⟩
theorem atI_n {α : Type} {l : List α} {j : Nat} {x : α} (h : l[j]? = some x) : atI l (j : Int) = some x := by
  have lt := (List.getElem?_eq_some_iff.mp h).1
  unfold atI ixN
  rw [if_pos (by omega), if_pos (by omega)]
  exact h
theorem iD_at {a : List Int} {i : Nat} (h : i < a.length) : atI (iD a) (0 + (i : Int)) = some (.int (a.getD i 0)) := by
  rw [Int.zero_add]
  refine atI_n ?_
  rw [List.getElem?_map, List.getElem?_eq_getElem h, List.getD_eq_getElem?_getD, List.getElem?_eq_getElem h]; rfl
inductive VF where
  | parts (l : List PartF) | cell (a b : List Int) | box (a b : List Int) | norms (a b : Int) | differ (a : List Int) (m : Int)
abbrev rowP (p : PartF) : Da := .tup [.int p.1, .lst (iD p.2.1), .int p.2.2]
abbrev VF.row : VF → Da
  | .parts l => .tup [.str "parts", .lst (l.map rowP)]
  | .cell a b => .tup [.str "cell", .lst (iD a), .lst (iD b)]
  | .box a b => .tup [.str "box", .lst (iD a), .lst (iD b)]
  | .norms a b => .tup [.str "norms", .int a, .int b]
  | .differ a m => .tup [.str "differ", .lst (iD a), .int m]
abbrev VF.da : VF → Da
  | .parts l => partsD l
  | .cell a b => cellD a b
  | .box a b => boxD a b
  | .norms a b => normsD a b
  | .differ a m => differD a m
/-- bounds that all laws' facts keep -/
def V9 (a : List Int) : Prop := Bd 1000000000 a ∧ a.length ≤ 1000
def N24 (n : Int) : Prop := -1000000000000000000000000 ≤ n ∧ n ≤ 1000000000000000000000000
def VF.Ok : VF → Prop
  | .parts l => l.length ≤ 1000 ∧ ∀ p ∈ l, V9 p.2.1 ∧ 0 ≤ p.2.2 ∧ N24 p.2.2 ∧ N24 p.1
  | .cell a b => V9 a ∧ V9 b
  | .box a b => V9 a ∧ V9 b
  | .norms a b => N24 a ∧ N24 b
  | .differ a m => V9 a ∧ N24 m
theorem V9.ok {a : List Int} (h : V9 a) : VOk a := ⟨h.1.mono (by decide), by have := h.2; omega⟩
theorem N24.short {n : Int} (h : N24 n) : Short n := short_of (by have := h.1; have := h.2; omega)
theorem part_ok {p : PartF} (h : V9 p.2.1 ∧ 0 ≤ p.2.2 ∧ N24 p.2.2 ∧ N24 p.1) : POk p := ⟨h.1.ok.1, h.1.ok.2, h.2.2.1.short⟩
/-! law_inner -/
def ps_law_inner : PSp := fun ds Q _ => ∃ (u v : Da) (a b : List Int), ds = [u, v] ∧ seqD u (iD a) ∧ seqD v (iD b) ∧ a.length = b.length ∧ VOk a ∧ VOk b ∧ Q (.int (innerZ a b))
def sp_law_inner (K : PySem.W.Frag) (c : CEnv) : Sp := lift K c ps_law_inner
theorem b_law_inner {K : PySem.W.Frag} {c : CEnv} : SpSim K c (sp_law_inner K c) ps_law_inner := spSim_lift
abbrev N_law_inner : List Str := ["_law_a", "_law_b", "_law_total", "_law_k"]
-- _law_inner(_law_a, _law_b): slots 0:_law_a 1:_law_b 2:_law_total 3:_law_k
def T_law_inner_b1 (K : PySem.W.Frag) : TS :=
    (tAsg (tOp (uAdd K) (tVar 2) (tOp uMul (tOp (uIx K) (tVar 0) (tVar 3)) (tOp (uIx K) (tVar 1) (tVar 3)))) (gName 2))
def T_law_inner (K : PySem.W.Frag) : TS :=
    (tSeq (tAsg (tC (.int 0)) (gName 2))
    (tSeq (tFor (iRng1 (tCons (tCB (uLen K) (tCons (tVar 0) tNil)) tNil)) (gName 3) (T_law_inner_b1 K))
    (tRet (tVar 2))))
def P_law_inner_b1 : PSt :=
    (pAsg (pOp pAdd (pVar 2) (pOp pMul (pOp pIx (pVar 0) (pVar 3)) (pOp pIx (pVar 1) (pVar 3)))) (pgName 2))
def P_law_inner : PSt :=
    (pSeq (pAsg (pC (.int 0)) (pgName 2))
    (pSeq (pFor (piRng1 (pCons (pCB pLen (pCons (pVar 0) pNil)) pNil)) (pgName 3) P_law_inner_b1)
    (pRet (pVar 2))))
theorem S_law_inner {K : PySem.W.Frag} {c : CEnv} : SimS ⟨K, c, W0, fun _ _ => False⟩ (T_law_inner K) (P_law_inner) := by
  unfold T_law_inner P_law_inner T_law_inner_b1 P_law_inner_b1
  exact (sim_seq (sim_asg (sim_int _) (sim_gName 2))
    (sim_seq (sim_for (sim_iRng1 (sim_cons (sim_cb sim_len (sim_cons (sim_var 0) sim_nil)) sim_nil)) (sim_gName 3) (sim_asg (sim_op sim_add (sim_var 2) (sim_op sim_mul (sim_op sim_ix (sim_var 0) (sim_var 3)) (sim_op sim_ix (sim_var 1) (sim_var 3)))) (sim_gName 2)))
    (sim_ret (sim_var 2))))

theorem q_law_inner : ∀ ds Q E, ps_law_inner ds Q E → ds.length = 2 ∧ P_law_inner { nx := fun _ => Q .non, rt := Q } (startP 4 ds) := by
  rintro _ Q E ⟨u, v, a, b, rfl, su, sv, hl, oa, ob, q⟩
  refine ⟨rfl, ?_⟩
  show P_law_inner _ [some (.d u), some (.d v), none, none]
  unfold P_law_inner
  walk_at "pv"
  refine p_lenSq su ?_
  walk_at "pv"
  rw [List.length_map]
  refine p_rng1 (by have := oa.2; omega) ?_
  refine p_loopR (fun i ρ => ∃ x3, ρ = [some (.d u), some (.d v), some (.d (.int (innerZ (a.take i) (b.take i)))), x3]) ?_ ?_ ?_
  · exact ⟨none, by simp [innerZ]⟩
  · rintro i ρ' hi ⟨x3, rfl⟩
    have l1 : i < a.length := by omega
    have u1 := oa.1.at l1
    have u2 := ob.1.at (show i < b.length by omega)
    unfold P_law_inner_b1
    walk_at "pv"
    refine p_ixS su (iD_at l1) ?_
    walk_at "pv"
    refine p_ixS sv (iD_at (show i < b.length by omega)) ?_
    walk_at "pv"
    refine p_mul (vm_mul u1) ?_
    walk_at "pv"
    rw [← innerZ_take hl l1]
    exact ⟨_, rfl⟩
  · rintro ρ' ⟨x3, rfl⟩
    rw [Int.toNat_natCast, List.take_length, hl, List.take_length]
    walk_at "pv"
    exact q
theorem w_law_inner {K : PySem.W.Frag} {c : CEnv} : Wd (T_law_inner K) N_law_inner 2 (sp_law_inner K c) := wd_lift S_law_inner q_law_inner
/-! law_distance -/
def ps_law_distance : PSp := fun ds Q _ => ∃ (u v : Da) (a b : List Int), ds = [u, v] ∧ seqD u (iD a) ∧ seqD v (iD b) ∧ a.length = b.length ∧ VOk a ∧ VOk b ∧ Q (.int (distZ a b))
def sp_law_distance (K : PySem.W.Frag) (c : CEnv) : Sp := lift K c ps_law_distance
theorem b_law_distance {K : PySem.W.Frag} {c : CEnv} : SpSim K c (sp_law_distance K c) ps_law_distance := spSim_lift
abbrev N_law_distance : List Str := ["_law_a", "_law_b", "_law_total", "_law_k"]
-- _law_distance(_law_a, _law_b): slots 0:_law_a 1:_law_b 2:_law_total 3:_law_k
def T_law_distance_b1 (K : PySem.W.Frag) : TS :=
    (tAsg (tOp (uAdd K) (tVar 2) (tOp uMul (tOp uSub (tOp (uIx K) (tVar 0) (tVar 3)) (tOp (uIx K) (tVar 1) (tVar 3))) (tOp uSub (tOp (uIx K) (tVar 0) (tVar 3)) (tOp (uIx K) (tVar 1) (tVar 3))))) (gName 2))
def T_law_distance (K : PySem.W.Frag) : TS :=
    (tSeq (tAsg (tC (.int 0)) (gName 2))
    (tSeq (tFor (iRng1 (tCons (tCB (uLen K) (tCons (tVar 0) tNil)) tNil)) (gName 3) (T_law_distance_b1 K))
    (tRet (tVar 2))))
def P_law_distance_b1 : PSt :=
    (pAsg (pOp pAdd (pVar 2) (pOp pMul (pOp pSub (pOp pIx (pVar 0) (pVar 3)) (pOp pIx (pVar 1) (pVar 3))) (pOp pSub (pOp pIx (pVar 0) (pVar 3)) (pOp pIx (pVar 1) (pVar 3))))) (pgName 2))
def P_law_distance : PSt :=
    (pSeq (pAsg (pC (.int 0)) (pgName 2))
    (pSeq (pFor (piRng1 (pCons (pCB pLen (pCons (pVar 0) pNil)) pNil)) (pgName 3) P_law_distance_b1)
    (pRet (pVar 2))))
theorem S_law_distance {K : PySem.W.Frag} {c : CEnv} : SimS ⟨K, c, W0, fun _ _ => False⟩ (T_law_distance K) (P_law_distance) := by
  unfold T_law_distance P_law_distance T_law_distance_b1 P_law_distance_b1
  exact (sim_seq (sim_asg (sim_int _) (sim_gName 2))
    (sim_seq (sim_for (sim_iRng1 (sim_cons (sim_cb sim_len (sim_cons (sim_var 0) sim_nil)) sim_nil)) (sim_gName 3) (sim_asg (sim_op sim_add (sim_var 2) (sim_op sim_mul (sim_op sim_sub (sim_op sim_ix (sim_var 0) (sim_var 3)) (sim_op sim_ix (sim_var 1) (sim_var 3))) (sim_op sim_sub (sim_op sim_ix (sim_var 0) (sim_var 3)) (sim_op sim_ix (sim_var 1) (sim_var 3))))) (sim_gName 2)))
    (sim_ret (sim_var 2))))

theorem q_law_distance : ∀ ds Q E, ps_law_distance ds Q E → ds.length = 2 ∧ P_law_distance { nx := fun _ => Q .non, rt := Q } (startP 4 ds) := by
  rintro _ Q E ⟨u, v, a, b, rfl, su, sv, hl, oa, ob, q⟩
  refine ⟨rfl, ?_⟩
  show P_law_distance _ [some (.d u), some (.d v), none, none]
  unfold P_law_distance
  walk_at "pv"
  refine p_lenSq su ?_
  walk_at "pv"
  rw [List.length_map]
  refine p_rng1 (by have := oa.2; omega) ?_
  refine p_loopR (fun i ρ => ∃ x3, ρ = [some (.d u), some (.d v), some (.d (.int (distZ (a.take i) (b.take i)))), x3]) ?_ ?_ ?_
  · exact ⟨none, by simp [distZ]⟩
  · rintro i ρ' hi ⟨x3, rfl⟩
    have l1 : i < a.length := by omega
    have u1 := oa.1.at l1
    have u2 := ob.1.at (show i < b.length by omega)
    unfold P_law_distance_b1
    walk_at "pv"
    refine p_ixS su (iD_at l1) ?_
    walk_at "pv"
    refine p_ixS sv (iD_at (show i < b.length by omega)) ?_
    walk_at "pv"
    refine p_ixS su (iD_at l1) ?_
    walk_at "pv"
    refine p_ixS sv (iD_at (show i < b.length by omega)) ?_
    walk_at "pv"
    refine p_mul (vm_sq u1 u2) ?_
    walk_at "pv"
    rw [← distZ_take hl l1]
    exact ⟨_, rfl⟩
  · rintro ρ' ⟨x3, rfl⟩
    rw [Int.toNat_natCast, List.take_length, hl, List.take_length]
    walk_at "pv"
    exact q
theorem w_law_distance {K : PySem.W.Frag} {c : CEnv} : Wd (T_law_distance K) N_law_distance 2 (sp_law_distance K c) := wd_lift S_law_distance q_law_distance

theorem diffZ_filter {a b : List Int} (hl : a.length = b.length) : ∀ i, i ≤ a.length → (((List.range i).filter fun j => !decide (a.getD j 0 = b.getD j 0)).length : Int) = diffZ (a.take i) (b.take i)
  | 0, _ => by simp [diffZ]
  | i + 1, h => by
    rw [List.range_succ, List.filter_append, List.length_append, diffZ_take hl (by omega), ← diffZ_filter hl i (by omega)]
    by_cases e : a.getD i 0 = b.getD i 0
    · rw [List.filter_cons_of_neg (by rw [decide_eq_true e]; decide), if_pos e]; simp
    · rw [List.filter_cons_of_pos (by simp only [decide_eq_false e]; rfl), if_neg e]; simp
/-! law_differing -/
def ps_law_differing : PSp := fun ds Q _ => ∃ (u v : Da) (a b : List Int), ds = [u, v] ∧ seqD u (iD a) ∧ seqD v (iD b) ∧ a.length = b.length ∧ V9 a ∧ V9 b ∧ Q (.int (diffZ a b))
def sp_law_differing (K : PySem.W.Frag) (c : CEnv) : Sp := lift K c ps_law_differing
theorem b_law_differing {K : PySem.W.Frag} {c : CEnv} : SpSim K c (sp_law_differing K c) ps_law_differing := spSim_lift
abbrev N_law_differing : List Str := ["_law_a", "_law_b", "_law_k"]
-- _law_differing(_law_a, _law_b): slots 0:_law_a 1:_law_b 2:_law_k
def T_law_differing (K : PySem.W.Frag) : TS :=
    (tRet (tCB (uLen K) (tCons (tLc (iRng1 (tCons (tCB (uLen K) (tCons (tVar 0) tNil)) tNil)) (gName 2) (tTest (tOp (uNe K) (tOp (uIx K) (tVar 0) (tVar 2)) (tOp (uIx K) (tVar 1) (tVar 2)))) (tVar 2) [2]) tNil)))
def P_law_differing : PSt :=
    (pRet (pCB pLen (pCons (pLc (piRng1 (pCons (pCB pLen (pCons (pVar 0) pNil)) pNil)) (pgName 2) (pTest (pOp pNe (pOp pIx (pVar 0) (pVar 2)) (pOp pIx (pVar 1) (pVar 2)))) (pVar 2) [2]) pNil)))
theorem S_law_differing {K : PySem.W.Frag} {c : CEnv} : SimS ⟨K, c, W0, fun _ _ => False⟩ (T_law_differing K) (P_law_differing) := by
  unfold T_law_differing P_law_differing
  exact (sim_ret (sim_cb sim_len (sim_cons (sim_lc (sim_iRng1 (sim_cons (sim_cb sim_len (sim_cons (sim_var 0) sim_nil)) sim_nil)) (sim_gName 2) (by decide) (sim_test (sim_op sim_ne (sim_op sim_ix (sim_var 0) (sim_var 2)) (sim_op sim_ix (sim_var 1) (sim_var 2)))) (sim_var 2)) sim_nil)))

theorem q_law_differing : ∀ ds Q E, ps_law_differing ds Q E → ds.length = 2 ∧ P_law_differing { nx := fun _ => Q .non, rt := Q } (startP 3 ds) := by
  rintro _ Q E ⟨u, v, a, b, rfl, su, sv, hl, oa, ob, q⟩
  refine ⟨rfl, ?_⟩
  show P_law_differing _ [some (.d u), some (.d v), none]
  unfold P_law_differing
  walk_at "pv"
  refine p_lenSq su ?_
  walk_at "pv"
  rw [List.length_map]
  refine p_rng1 (by have := oa.2; omega) ?_
  rw [Int.toNat_natCast]
  refine p_filt (l := List.range a.length) (f := fun (i : Nat) => .int (0 + (i : Int))) (g := fun (i : Nat) => .int (0 + (i : Int))) (fun j => !decide (a.getD j 0 = b.getD j 0)) (by rw [List.length_range]; have := oa.2; omega) (fun i j k1 k2 hj h1 h2 => ?_) ?_
  · have l1 : j < a.length := List.mem_range.mp (List.mem_of_getElem? hj)
    walk_at "pv"
    refine p_ixS su (iD_at l1) ?_
    walk_at "pv"
    refine p_ixS sv (iD_at (show j < b.length by omega)) ?_
    walk_at "pv"

    cases c : decide (a.getD j 0 = b.getD j 0) with
    | false =>
      walk_at "pw"
      exact h1 (by simp only [c]; rfl)
    | true =>
      walk_at "pw"
      exact h2 (by simp only [c]; rfl)
  · walk_at "pv"
    rw [List.length_map, diffZ_filter hl a.length (Nat.le_refl _), List.take_length, hl, List.take_length]
    exact q
theorem w_law_differing {K : PySem.W.Frag} {c : CEnv} : Wd (T_law_differing K) N_law_differing 2 (sp_law_differing K c) := wd_lift S_law_differing q_law_differing
/-! law_made -/
def ps_law_made : PSp := fun ds Q _ => ∃ (f : VF), ds = [f.row] ∧ f.Ok ∧ Q f.da
def sp_law_made (K : PySem.W.Frag) (c : CEnv) : Sp := lift K c ps_law_made
theorem b_law_made {K : PySem.W.Frag} {c : CEnv} : SpSim K c (sp_law_made K c) ps_law_made := spSim_lift
abbrev N_law_made : List Str := ["_law_fact", "_law_start", "_law_centre", "_law_radius"]
-- _law_made(_law_fact): slots 0:_law_fact 1:_law_start 2:_law_centre 3:_law_radius
def T_law_made (K : PySem.W.Frag) (c : CEnv) : TS :=
    (tSeq (tIfS (tTest (tOp (uEq K) (tOp (uIx K) (tVar 0) (tC (.int 0))) (tC (.str "parts")))) (tRet (tMk K c "Parts" ["parts"] (sp_Parts_init K c) (tCons (tLc (iSq K (tOp (uIx K) (tVar 0) (tC (.int 1)))) (gTup K 3 (gCons (gName 1) (gCons (gName 2) (gCons (gName 3) gNil)))) tYes (tMk K c "Part" ["start", "centre", "radius"] (sp_Part_init K c) (tCons (tVar 1) (tCons (tCB (uList K) (tCons (tVar 2) tNil)) (tCons (tVar 3) tNil)))) [1, 2, 3]) tNil))) tNext)
    (tSeq (tIfS (tTest (tOp (uEq K) (tOp (uIx K) (tVar 0) (tC (.int 0))) (tC (.str "cell")))) (tRet (tMk K c "Cell" ["near", "rival"] (sp_Cell_init K c) (tCons (tCB (uList K) (tCons (tOp (uIx K) (tVar 0) (tC (.int 1))) tNil)) (tCons (tCB (uList K) (tCons (tOp (uIx K) (tVar 0) (tC (.int 2))) tNil)) tNil)))) tNext)
    (tSeq (tIfS (tTest (tOp (uEq K) (tOp (uIx K) (tVar 0) (tC (.int 0))) (tC (.str "box")))) (tRet (tMk K c "Box" ["low", "high"] (sp_Box_init K c) (tCons (tCB (uList K) (tCons (tOp (uIx K) (tVar 0) (tC (.int 1))) tNil)) (tCons (tCB (uList K) (tCons (tOp (uIx K) (tVar 0) (tC (.int 2))) tNil)) tNil)))) tNext)
    (tSeq (tIfS (tTest (tOp (uEq K) (tOp (uIx K) (tVar 0) (tC (.int 0))) (tC (.str "norms")))) (tRet (tMk K c "Norms" ["low", "high"] (sp_Norms_init K c) (tCons (tOp (uIx K) (tVar 0) (tC (.int 1))) (tCons (tOp (uIx K) (tVar 0) (tC (.int 2))) tNil)))) tNext)
    (tSeq (tIfS (tTest (tOp (uEq K) (tOp (uIx K) (tVar 0) (tC (.int 0))) (tC (.str "differ")))) (tRet (tMk K c "Differ" ["centre", "most"] (sp_Differ_init K c) (tCons (tCB (uList K) (tCons (tOp (uIx K) (tVar 0) (tC (.int 1))) tNil)) (tCons (tOp (uIx K) (tVar 0) (tC (.int 2))) tNil)))) tNext)
    (tSeq (tIfS (tTest (tOp (uEq K) (tOp (uIx K) (tVar 0) (tC (.int 0))) (tC (.str "range")))) tNever tNext)
    (tSeq (tIfS (tTest (tOp (uEq K) (tOp (uIx K) (tVar 0) (tC (.int 0))) (tC (.str "values")))) tNever tNext)
    (tSeq (tIfS (tTest (tOp (uEq K) (tOp (uIx K) (tVar 0) (tC (.int 0))) (tC (.str "counts")))) tNever tNext)
    tNever))))))))
def P_law_made : PSt :=
    (pSeq (pIfS (pTest (pOp pEq (pOp pIx (pVar 0) (pC (.int 0))) (pC (.str "parts")))) (pRet (pMk "Parts" ["parts"] ps_Parts_init (pCons (pLc (piSq (pOp pIx (pVar 0) (pC (.int 1)))) (pgTup 3 (pgCons (pgName 1) (pgCons (pgName 2) (pgCons (pgName 3) pgNil)))) pYes (pMk "Part" ["start", "centre", "radius"] ps_Part_init (pCons (pVar 1) (pCons (pCB pList (pCons (pVar 2) pNil)) (pCons (pVar 3) pNil)))) [1, 2, 3]) pNil))) pNext)
    (pSeq (pIfS (pTest (pOp pEq (pOp pIx (pVar 0) (pC (.int 0))) (pC (.str "cell")))) (pRet (pMk "Cell" ["near", "rival"] ps_Cell_init (pCons (pCB pList (pCons (pOp pIx (pVar 0) (pC (.int 1))) pNil)) (pCons (pCB pList (pCons (pOp pIx (pVar 0) (pC (.int 2))) pNil)) pNil)))) pNext)
    (pSeq (pIfS (pTest (pOp pEq (pOp pIx (pVar 0) (pC (.int 0))) (pC (.str "box")))) (pRet (pMk "Box" ["low", "high"] ps_Box_init (pCons (pCB pList (pCons (pOp pIx (pVar 0) (pC (.int 1))) pNil)) (pCons (pCB pList (pCons (pOp pIx (pVar 0) (pC (.int 2))) pNil)) pNil)))) pNext)
    (pSeq (pIfS (pTest (pOp pEq (pOp pIx (pVar 0) (pC (.int 0))) (pC (.str "norms")))) (pRet (pMk "Norms" ["low", "high"] ps_Norms_init (pCons (pOp pIx (pVar 0) (pC (.int 1))) (pCons (pOp pIx (pVar 0) (pC (.int 2))) pNil)))) pNext)
    (pSeq (pIfS (pTest (pOp pEq (pOp pIx (pVar 0) (pC (.int 0))) (pC (.str "differ")))) (pRet (pMk "Differ" ["centre", "most"] ps_Differ_init (pCons (pCB pList (pCons (pOp pIx (pVar 0) (pC (.int 1))) pNil)) (pCons (pOp pIx (pVar 0) (pC (.int 2))) pNil)))) pNext)
    (pSeq (pIfS (pTest (pOp pEq (pOp pIx (pVar 0) (pC (.int 0))) (pC (.str "range")))) pNever pNext)
    (pSeq (pIfS (pTest (pOp pEq (pOp pIx (pVar 0) (pC (.int 0))) (pC (.str "values")))) pNever pNext)
    (pSeq (pIfS (pTest (pOp pEq (pOp pIx (pVar 0) (pC (.int 0))) (pC (.str "counts")))) pNever pNext)
    pNever))))))))
theorem S_law_made {K : PySem.W.Frag} {c : CEnv} : SimS ⟨K, c, W0, fun _ _ => False⟩ (T_law_made K c) (P_law_made) := by
  unfold T_law_made P_law_made
  exact (sim_seq (sim_ifS (sim_test (sim_op sim_eq (sim_op sim_ix (sim_var 0) (sim_int _)) (sim_str _))) (sim_ret (sim_mk b_Parts_init (sim_cons (sim_lc (sim_iSq (sim_op sim_ix (sim_var 0) (sim_int _))) (sim_gTup (sim_gCons (sim_gName 1) (sim_gCons (sim_gName 2) (sim_gCons (sim_gName 3) sim_gNil)))) (by decide) sim_yes (sim_mk b_Part_init (sim_cons (sim_var 1) (sim_cons (sim_cb sim_list (sim_cons (sim_var 2) sim_nil)) (sim_cons (sim_var 3) sim_nil))))) sim_nil))) sim_next)
    (sim_seq (sim_ifS (sim_test (sim_op sim_eq (sim_op sim_ix (sim_var 0) (sim_int _)) (sim_str _))) (sim_ret (sim_mk b_Cell_init (sim_cons (sim_cb sim_list (sim_cons (sim_op sim_ix (sim_var 0) (sim_int _)) sim_nil)) (sim_cons (sim_cb sim_list (sim_cons (sim_op sim_ix (sim_var 0) (sim_int _)) sim_nil)) sim_nil)))) sim_next)
    (sim_seq (sim_ifS (sim_test (sim_op sim_eq (sim_op sim_ix (sim_var 0) (sim_int _)) (sim_str _))) (sim_ret (sim_mk b_Box_init (sim_cons (sim_cb sim_list (sim_cons (sim_op sim_ix (sim_var 0) (sim_int _)) sim_nil)) (sim_cons (sim_cb sim_list (sim_cons (sim_op sim_ix (sim_var 0) (sim_int _)) sim_nil)) sim_nil)))) sim_next)
    (sim_seq (sim_ifS (sim_test (sim_op sim_eq (sim_op sim_ix (sim_var 0) (sim_int _)) (sim_str _))) (sim_ret (sim_mk b_Norms_init (sim_cons (sim_op sim_ix (sim_var 0) (sim_int _)) (sim_cons (sim_op sim_ix (sim_var 0) (sim_int _)) sim_nil)))) sim_next)
    (sim_seq (sim_ifS (sim_test (sim_op sim_eq (sim_op sim_ix (sim_var 0) (sim_int _)) (sim_str _))) (sim_ret (sim_mk b_Differ_init (sim_cons (sim_cb sim_list (sim_cons (sim_op sim_ix (sim_var 0) (sim_int _)) sim_nil)) (sim_cons (sim_op sim_ix (sim_var 0) (sim_int _)) sim_nil)))) sim_next)
    (sim_seq (sim_ifS (sim_test (sim_op sim_eq (sim_op sim_ix (sim_var 0) (sim_int _)) (sim_str _))) sim_never sim_next)
    (sim_seq (sim_ifS (sim_test (sim_op sim_eq (sim_op sim_ix (sim_var 0) (sim_int _)) (sim_str _))) sim_never sim_next)
    (sim_seq (sim_ifS (sim_test (sim_op sim_eq (sim_op sim_ix (sim_var 0) (sim_int _)) (sim_str _))) sim_never sim_next)
    sim_never))))))))

theorem q_law_made : ∀ ds Q E, ps_law_made ds Q E → ds.length = 1 ∧ P_law_made { nx := fun _ => Q .non, rt := Q } (startP 4 ds) := by
  rintro _ Q E ⟨f, rfl, ok, q⟩
  refine ⟨rfl, ?_⟩
  show P_law_made _ [some (.d f.row), none, none, none]
  unfold P_law_made
  cases f with
  | parts l =>
    walk_at "pw"
    refine p_comp (by rw [List.length_map]; have := ok.1; omega) (fun i acc => acc = (l.take i).map partD) rfl ?_ ?_
    · rintro i x acc hx rfl
      obtain ⟨p, hp, rfl⟩ := mapD_get hx
      walk_at "pw"
      refine ⟨_, _, _, _, rfl, .inl rfl, ?_⟩
      rw [takeS hp, List.map_append]; rfl
    · rintro acc rfl
      rw [List.length_map, List.take_length]
      walk_at "pw"
      refine ⟨_, _, rfl, .inl rfl, ?_⟩
      exact q
  | cell a b =>
    walk_at "pw"
    refine ⟨_, iD a, _, iD b, rfl, .inl rfl, .inl rfl, ?_⟩
    exact q
  | box a b =>
    walk_at "pw"
    refine ⟨_, iD a, _, iD b, rfl, .inl rfl, .inl rfl, ?_⟩
    exact q
  | norms a b =>
    walk_at "pw"
    refine ⟨_, _, rfl, ?_⟩
    exact q
  | differ a m =>
    walk_at "pw"
    refine ⟨_, iD a, _, rfl, .inl rfl, ?_⟩
    exact q
theorem w_law_made {K : PySem.W.Frag} {c : CEnv} : Wd (T_law_made K c) N_law_made 1 (sp_law_made K c) := wd_lift S_law_made q_law_made

/-! ### records -/
theorem fl_ok {d : Da} (h : flD d = true) : okTy d = true := by cases d <;> first | rfl | (cases h; done)
def FlF (l : List (Da × Da)) : Prop := ∀ z ∈ l, flD z.1 = true ∧ flD z.2 = true
theorem prD_get {l : List (Da × Da)} {i : Nat} {x : Da} (h : (prD l)[i]? = some x) : ∃ z, l[i]? = some z ∧ z ∈ l ∧ x = .tup [z.1, z.2] := by
  rw [List.getElem?_map] at h
  cases e : l[i]? with
  | none => rw [e] at h; cases h
  | some z => rw [e] at h; cases h; exact ⟨z, rfl, List.mem_of_getElem? e, rfl⟩
theorem eqF_false {a b : List Da} {i : Nat} {x y : Da} (hx : a[i]? = some x) (hy : b[i]? = some y) (h : eqF1 x y = false) : eqF (.tup a) (.tup b) = false := by
  unfold eqF
  rw [Bool.and_eq_false_iff]
  refine .inl ?_
  rw [Bool.eq_false_iff]
  intro z
  have hz : (List.zipWith eqF1 a b)[i]? = some false := by rw [List.getElem?_zipWith, hx, hy]; exact congrArg some h
  have := List.all_eq_true.mp z false (List.mem_of_getElem? hz)
  cases this
theorem eqF_len {a b : List Da} (h : a.length ≠ b.length) : eqF (.tup a) (.tup b) = false := by
  unfold eqF
  rw [Bool.and_eq_false_iff]
  exact .inr (by simpa using h)
theorem eqF_true {a b : List Da} (hl : a.length = b.length) (h : ∀ (i : Nat) (x y : Da), a[i]? = some x → b[i]? = some y → eqF1 x y = true) : eqF (.tup a) (.tup b) = true := by
  unfold eqF
  rw [Bool.and_eq_true, beq_iff_eq]
  refine ⟨List.all_eq_true.mpr fun z hz => ?_, hl⟩
  obtain ⟨i, hi⟩ := List.mem_iff_getElem?.mp hz
  rw [List.getElem?_zipWith] at hi
  cases e : a[i]? with
  | none => rw [e] at hi; cases hi
  | some x => cases e2 : b[i]? with
    | none => rw [e, e2] at hi; cases hi
    | some y => rw [e, e2] at hi; cases hi; exact h i x y e e2
theorem isTy_bool {a : Da} : isTy "bool" a = decide (kd0 a = 1) := by cases a <;> rfl
theorem isTy_str {a : Da} : isTy "str" a = decide (kd0 a = 2) := by cases a <;> rfl
theorem kd_bool {a b : Da} (fa : flD a = true) (fb : flD b = true) (h : kd0 a = kd0 b) : isTy "bool" a = isTy "bool" b := by rw [isTy_bool, isTy_bool, h]
theorem kd_str {a b : Da} (fa : flD a = true) (fb : flD b = true) (h : kd0 a = kd0 b) : isTy "str" a = isTy "str" b := by rw [isTy_str, isTy_str, h]
theorem kd_eq {a b : Da} (fa : flD a = true) (fb : flD b = true) (h1 : isTy "bool" a = isTy "bool" b) (h2 : isTy "str" a = isTy "str" b) : (kd0 a = kd0 b) = True := by
  rw [isTy_bool, isTy_bool] at h1
  rw [isTy_str, isTy_str] at h2
  refine eq_true ?_
  have ha : kd0 a = 0 ∨ kd0 a = 1 ∨ kd0 a = 2 := by cases a <;> simp [kd0]
  have hb : kd0 b = 0 ∨ kd0 b = 1 ∨ kd0 b = 2 := by cases b <;> simp [kd0]
  rw [decide_eq_decide] at h1 h2
  omega
/-! same_value -/
def ps_same_value : PSp := fun ds Q _ => ∃ a b, ds = [a, b] ∧ flD a = true ∧ flD b = true ∧ Q (.bl (decide (kd0 a = kd0 b) && eq0 a b))
def sp_same_value (K : PySem.W.Frag) (c : CEnv) : Sp := lift K c ps_same_value
theorem b_same_value {K : PySem.W.Frag} {c : CEnv} : SpSim K c (sp_same_value K c) ps_same_value := spSim_lift
abbrev N_same_value : List Str := ["a", "b"]
-- same_value(a, b): slots 0:a 1:b
def T_same_value (K : PySem.W.Frag) : TS :=
    (tRet (tAndV (tOp (uEq K) (tCB (uIsi K) (tCons (tVar 0) (tCons (tC (.ty "bool")) tNil))) (tCB (uIsi K) (tCons (tVar 1) (tCons (tC (.ty "bool")) tNil)))) (tAndV (tOp (uEq K) (tCB (uIsi K) (tCons (tVar 0) (tCons (tC (.ty "str")) tNil))) (tCB (uIsi K) (tCons (tVar 1) (tCons (tC (.ty "str")) tNil)))) (tOp (uEq K) (tVar 0) (tVar 1)))))
def P_same_value : PSt :=
    (pRet (pAndV (pOp pEq (pCB pIsi (pCons (pVar 0) (pCons (pC (.ty "bool")) pNil))) (pCB pIsi (pCons (pVar 1) (pCons (pC (.ty "bool")) pNil)))) (pAndV (pOp pEq (pCB pIsi (pCons (pVar 0) (pCons (pC (.ty "str")) pNil))) (pCB pIsi (pCons (pVar 1) (pCons (pC (.ty "str")) pNil)))) (pOp pEq (pVar 0) (pVar 1)))))
theorem S_same_value {K : PySem.W.Frag} {c : CEnv} {W : WX} {Wp : WP} : SimS ⟨K, c, W, Wp⟩ (T_same_value K) (P_same_value) := by
  unfold T_same_value P_same_value
  exact (sim_ret (sim_andV (sim_op sim_eq (sim_cb sim_isi (sim_cons (sim_var 0) (sim_cons (sim_ty _) sim_nil))) (sim_cb sim_isi (sim_cons (sim_var 1) (sim_cons (sim_ty _) sim_nil)))) (sim_andV (sim_op sim_eq (sim_cb sim_isi (sim_cons (sim_var 0) (sim_cons (sim_ty _) sim_nil))) (sim_cb sim_isi (sim_cons (sim_var 1) (sim_cons (sim_ty _) sim_nil)))) (sim_op sim_eq (sim_var 0) (sim_var 1)))))

theorem q_same_value : ∀ ds Q E, ps_same_value ds Q E → ds.length = 2 ∧ P_same_value { nx := fun _ => Q .non, rt := Q } (startP 2 ds) := by
  rintro _ Q E ⟨a, b, rfl, fa, fb, q⟩
  refine ⟨rfl, ?_⟩
  show P_same_value _ [some (.d a), some (.d b)]
  unfold P_same_value
  walk_at "pz"
  refine p_isi (fl_ok fa) (by decide) ?_
  walk_at "pz"
  refine p_isi (fl_ok fb) (by decide) ?_
  walk_at "pz"
  refine z_itD (fun c1 => ?_) (fun c1 => ?_)
  · walk_at "pz"
    refine p_isi (fl_ok fa) (by decide) ?_
    walk_at "pz"
    refine p_isi (fl_ok fb) (by decide) ?_
    walk_at "pz"
    refine z_itD (fun c2 => ?_) (fun c2 => ?_)
    · walk_at "pz"
      refine p_eqf fa fb ?_
      rw [eqD_flat fa fb]
      rw [decide_eq_true (of_eq_true (kd_eq fa fb c1 c2)), Bool.true_and] at q
      exact q
    · rw [decide_eq_false (fun z => c2 (kd_str fa fb z)), Bool.false_and] at q
      exact q
  · rw [decide_eq_false (fun z => c1 (kd_bool fa fb z)), Bool.false_and] at q
    exact q
theorem w_same_value {K : PySem.W.Frag} {c : CEnv} : Wd (T_same_value K) N_same_value 2 (sp_same_value K c) := wd_lift S_same_value q_same_value
/-! same_fields -/
def ps_same_fields : PSp := fun ds Q _ => ∃ la lb, ds = [.tup (prD la), .tup (prD lb)] ∧ FlF la ∧ FlF lb ∧ Q (.bl (eqF (.tup (prD la)) (.tup (prD lb))))
def sp_same_fields (K : PySem.W.Frag) (c : CEnv) : Sp := lift K c ps_same_fields
theorem b_same_fields {K : PySem.W.Frag} {c : CEnv} : SpSim K c (sp_same_fields K c) ps_same_fields := spSim_lift
abbrev N_same_fields : List Str := ["a", "b", "name", "worth", "other", "second"]
-- same_fields(a, b): slots 0:a 1:b 2:name 3:worth 4:other 5:second
def T_same_fields_b1 (K : PySem.W.Frag) (c : CEnv) : TS :=
    (tIfS (tOr (tTest (tOp (uNe K) (tVar 2) (tVar 4))) (tNot (tTru K (tCal (sp_same_value K c) (tCons (tVar 3) (tCons (tVar 5) tNil)))))) (tRet (tC (.bl false))) tNext)
def T_same_fields (K : PySem.W.Frag) (c : CEnv) : TS :=
    (tSeq (tIfS (tTest (tOp (uNe K) (tCB (uLen K) (tCons (tVar 0) tNil)) (tCB (uLen K) (tCons (tVar 1) tNil)))) (tRet (tC (.bl false))) tNext)
    (tSeq (tFor (RZ.iZipA K (tCons (tVar 0) (tCons (tVar 1) tNil))) (gTup K 2 (gCons (gTup K 2 (gCons (gName 2) (gCons (gName 3) gNil))) (gCons (gTup K 2 (gCons (gName 4) (gCons (gName 5) gNil))) gNil))) (T_same_fields_b1 K c))
    (tRet (tC (.bl true)))))
def P_same_fields_b1 : PSt :=
    (pIfS (pOr (pTest (pOp pNe (pVar 2) (pVar 4))) (pNot (pTru (pCal ps_same_value (pCons (pVar 3) (pCons (pVar 5) pNil)))))) (pRet (pC (.bl false))) pNext)
def P_same_fields : PSt :=
    (pSeq (pIfS (pTest (pOp pNe (pCB pLen (pCons (pVar 0) pNil)) (pCB pLen (pCons (pVar 1) pNil)))) (pRet (pC (.bl false))) pNext)
    (pSeq (pFor (piZip (pCons (pVar 0) (pCons (pVar 1) pNil))) (pgTup 2 (pgCons (pgTup 2 (pgCons (pgName 2) (pgCons (pgName 3) pgNil))) (pgCons (pgTup 2 (pgCons (pgName 4) (pgCons (pgName 5) pgNil))) pgNil))) P_same_fields_b1)
    (pRet (pC (.bl true)))))
theorem S_same_fields {K : PySem.W.Frag} {c : CEnv} {W : WX} {Wp : WP} : SimS ⟨K, c, W, Wp⟩ (T_same_fields K c) (P_same_fields) := by
  unfold T_same_fields P_same_fields T_same_fields_b1 P_same_fields_b1
  exact (sim_seq (sim_ifS (sim_test (sim_op sim_ne (sim_cb sim_len (sim_cons (sim_var 0) sim_nil)) (sim_cb sim_len (sim_cons (sim_var 1) sim_nil)))) (sim_ret (sim_bl _)) sim_next)
    (sim_seq (sim_for (sim_iZip (sim_cons (sim_var 0) (sim_cons (sim_var 1) sim_nil))) (sim_gTup (sim_gCons (sim_gTup (sim_gCons (sim_gName 2) (sim_gCons (sim_gName 3) sim_gNil))) (sim_gCons (sim_gTup (sim_gCons (sim_gName 4) (sim_gCons (sim_gName 5) sim_gNil))) sim_gNil))) (sim_ifS (sim_or (sim_test (sim_op sim_ne (sim_var 2) (sim_var 4))) (sim_not (sim_tru (sim_cal b_same_value (sim_cons (sim_var 3) (sim_cons (sim_var 5) sim_nil)))))) (sim_ret (sim_bl _)) sim_next))
    (sim_ret (sim_bl _))))

theorem q_same_fields : ∀ ds Q E, ps_same_fields ds Q E → ds.length = 2 ∧ P_same_fields { nx := fun _ => Q .non, rt := Q } (startP 6 ds) := by
  rintro _ Q E ⟨la, lb, rfl, fa, fb, q⟩
  refine ⟨rfl, ?_⟩
  show P_same_fields _ [some (.d (.tup (prD la))), some (.d (.tup (prD lb))), none, none, none, none]
  unfold P_same_fields
  walk_at "pz"
  refine z_itN (fun c => ?_) (fun c => ?_)
  · walk_at "pz"
    rw [eqF_len (by omega)] at q
    exact q
  walk_at "pz"
  refine p_loop (fun i ρ => (∃ x2 x3 x4 x5, ρ = [some (.d (.tup (prD la))), some (.d (.tup (prD lb))), x2, x3, x4, x5]) ∧ ∀ (j : Nat) (x y : Da), j < i → (prD la)[j]? = some x → (prD lb)[j]? = some y → eqF1 x y = true) ⟨⟨_, _, _, _, rfl⟩, fun j x y hj => absurd hj (Nat.not_lt_zero _)⟩ ?_ ?_
  · rintro i x ρ' hx ⟨⟨x2, x3, x4, x5, rfl⟩, ih⟩
    obtain ⟨u, v, hu, hv, rfl⟩ := zipD_get hx
    obtain ⟨z1, e1, m1, rfl⟩ := prD_get hu
    obtain ⟨z2, e2, m2, rfl⟩ := prD_get hv
    unfold P_same_fields_b1
    walk_at "pz"
    refine p_nef (fa _ m1).1 (fb _ m2).1 ?_
    have ef : eqF1 (.tup [z1.1, z1.2]) (.tup [z2.1, z2.2]) = (eqD z1.1 z2.1 && (decide (kd0 z1.2 = kd0 z2.2) && eq0 z1.2 z2.2)) := by rw [eqD_flat (fa _ m1).1 (fb _ m2).1]; rfl
    cases c2 : eqD z1.1 z2.1 with
    | false =>
      walk_at "px"
      rw [eqF_false hu hv (by rw [ef, c2]; rfl)] at q
      exact q
    | true =>
      walk_at "px"
      refine ⟨_, _, rfl, (fa _ m1).2, (fb _ m2).2, ?_⟩
      cases c3 : decide (kd0 z1.2 = kd0 z2.2) && eq0 z1.2 z2.2 with
      | false =>
        walk_at "px"
        rw [eqF_false hu hv (by rw [ef, c3, Bool.and_false])] at q
        exact q
      | true =>
        walk_at "px"
        refine ⟨⟨_, _, _, _, rfl⟩, fun j x y hj hx2 hy2 => ?_⟩
        rcases Nat.lt_succ_iff_lt_or_eq.mp hj with z | z
        · exact ih j x y z hx2 hy2
        · subst z
          rw [hu] at hx2; rw [hv] at hy2
          cases hx2; cases hy2
          rw [ef, c2, c3]; rfl
  · rintro ρ' ⟨⟨x2, x3, x4, x5, rfl⟩, ih⟩
    walk_at "pz"
    rw [eqF_true (by omega) fun i x y hx hy => ih i x y (by
      have := (List.getElem?_eq_some_iff.mp hx).1
      have := (List.getElem?_eq_some_iff.mp hy).1
      rw [zipD_len]; omega) hx hy] at q
    exact q
theorem w_same_fields {K : PySem.W.Frag} {c : CEnv} : Wd (T_same_fields K c) N_same_fields 2 (sp_same_fields K c) := wd_lift S_same_fields q_same_fields
abbrev RK : List Str := ["name", "vector", "fields", "words"]
abbrev recD (n : Da) (v f w : List Da) : Da := .ins "Record" RK [n, .tup v, .tup f, .tup w]
/-! Record_init -/
def ps_Record_init : PSi := fun ds Q _ => ∃ n v f w lv lf lw, ds = [n, v, f, w] ∧ seqD v lv ∧ seqD f (prD lf) ∧ seqD w (prD lw) ∧ lf.length ≤ 1000 ∧ lw.length ≤ 1000 ∧ Q [n, .tup lv, .tup (prD lf), .tup (prD lw)]
def sp_Record_init (K : PySem.W.Frag) (c : CEnv) : Sp := liftI K c "Record" RK ps_Record_init
theorem b_Record_init {K : PySem.W.Frag} {c : CEnv} : SpSimI K c "Record" RK (sp_Record_init K c) ps_Record_init := spSimI_lift
abbrev N_Record_init : List Str := ["self", "name", "vector", "fields", "words", "field", "worth", "word", "count"]
-- Record.__init__(self, name, vector, fields, words): slots 0:self 1:name 2:vector 3:fields 4:words 5:field 6:worth 7:word 8:count
def T_Record_init (K : PySem.W.Frag) : TS :=
    (tSeq (sFld K (tVar 0) (tVar 1) "name")
    (tSeq (sFld K (tVar 0) (tCB (uTuple K) (tCons (tVar 2) tNil)) "vector")
    (tSeq (sFld K (tVar 0) (tCB (uTuple K) (tCons (tLc (iSq K (tVar 3)) (gTup K 2 (gCons (gName 5) (gCons (gName 6) gNil))) tYes (tTup (tCons (tVar 5) (tCons (tVar 6) tNil))) [5, 6]) tNil)) "fields")
    (sFld K (tVar 0) (tCB (uTuple K) (tCons (tLc (iSq K (tVar 4)) (gTup K 2 (gCons (gName 7) (gCons (gName 8) gNil))) tYes (tTup (tCons (tVar 7) (tCons (tVar 8) tNil))) [7, 8]) tNil)) "words"))))
def P_Record_init : PSt :=
    (pSeq (pSetF 0 "name" (pVar 1))
    (pSeq (pSetF 0 "vector" (pCB pTuple (pCons (pVar 2) pNil)))
    (pSeq (pSetF 0 "fields" (pCB pTuple (pCons (pLc (piSq (pVar 3)) (pgTup 2 (pgCons (pgName 5) (pgCons (pgName 6) pgNil))) pYes (pTup (pCons (pVar 5) (pCons (pVar 6) pNil))) [5, 6]) pNil)))
    (pSetF 0 "words" (pCB pTuple (pCons (pLc (piSq (pVar 4)) (pgTup 2 (pgCons (pgName 7) (pgCons (pgName 8) pgNil))) pYes (pTup (pCons (pVar 7) (pCons (pVar 8) pNil))) [7, 8]) pNil))))))
theorem S_Record_init {K : PySem.W.Frag} {c : CEnv} {W : WX} {Wp : WP} : SimS ⟨K, c, W, Wp⟩ (T_Record_init K) (P_Record_init) := by
  unfold T_Record_init P_Record_init
  exact (sim_seq (sim_setF (sim_var 1))
    (sim_seq (sim_setF (sim_cb sim_tuple (sim_cons (sim_var 2) sim_nil)))
    (sim_seq (sim_setF (sim_cb sim_tuple (sim_cons (sim_lc (sim_iSq (sim_var 3)) (sim_gTup (sim_gCons (sim_gName 5) (sim_gCons (sim_gName 6) sim_gNil))) (by decide) sim_yes (sim_tup (sim_cons (sim_var 5) (sim_cons (sim_var 6) sim_nil)))) sim_nil)))
    (sim_setF (sim_cb sim_tuple (sim_cons (sim_lc (sim_iSq (sim_var 4)) (sim_gTup (sim_gCons (sim_gName 7) (sim_gCons (sim_gName 8) sim_gNil))) (by decide) sim_yes (sim_tup (sim_cons (sim_var 7) (sim_cons (sim_var 8) sim_nil)))) sim_nil))))))

theorem q_Record_init : ∀ ds Q E, ps_Record_init ds Q E → ds.length + 1 = 5 ∧ P_Record_init { nx := endI "Record" RK Q, rt := fun _ => False } (startI "Record" RK 9 ds) := by
  rintro _ Q E ⟨n, v, f, w, lv, lf, lw, rfl, hv, hf, hw, l1, l2, q⟩
  refine ⟨rfl, ?_⟩
  show P_Record_init _ [some (.obj "Record" RK [] []), some (.d n), some (.d v), some (.d f), some (.d w), none, none, none, none]
  unfold P_Record_init
  walk_at "pz"
  refine p_tupleS hv ?_
  walk_at "pz"
  refine p_isqS hf ?_
  refine p_map (by rw [prD_len]; omega) id (fun i x R hx k => ?_) ?_
  · obtain ⟨z, _, _, rfl⟩ := prD_get hx
    walk_at "pz"
    exact k
  rw [List.map_id]
  walk_at "pz"
  refine p_isqS hw ?_
  refine p_map (by rw [prD_len]; omega) id (fun i x R hx k => ?_) ?_
  · obtain ⟨z, _, _, rfl⟩ := prD_get hx
    walk_at "pz"
    exact k
  rw [List.map_id]
  walk_at "pz"
  exact ⟨_, rfl, q⟩
theorem w_Record_init {K : PySem.W.Frag} {c : CEnv} : Wd (T_Record_init K) N_Record_init 5 (sp_Record_init K c) := wd_liftI S_Record_init (by decide) q_Record_init
/-! Record_eq -/
def okRec (l m : List Da) : Prop := ∃ n v lf lw n2 v2 lf2 lw2, l = [n, .tup v, .tup (prD lf), .tup (prD lw)] ∧ m = [n2, .tup v2, .tup (prD lf2), .tup (prD lw2)] ∧ flD n = true ∧ flD n2 = true ∧ v.all flD = true ∧ v2.all flD = true ∧ FlF lf ∧ FlF lf2 ∧ FlF lw ∧ FlF lw2
def ps_Record_eq : PSp := psEqOf "Record" RK okRec
def sp_Record_eq (K : PySem.W.Frag) (c : CEnv) : Sp := lift K c ps_Record_eq
theorem b_Record_eq {K : PySem.W.Frag} {c : CEnv} : SpSim K c (sp_Record_eq K c) ps_Record_eq := spSim_lift
abbrev N_Record_eq : List Str := ["self", "other"]
-- Record.__eq__(self, other): slots 0:self 1:other
def T_Record_eq (K : PySem.W.Frag) (c : CEnv) : TS :=
    (tSeq (tIfS (tNot (tTru K (tCB (uIsi K) (tCons (tVar 1) (tCons (tCls K c "Record") tNil))))) (tRet (tC (.bl false))) tNext)
    (tSeq (tIfS (tOr (tTest (tOp (uNe K) (tFld K (tVar 0) "name") (tFld K (tVar 1) "name"))) (tOr (tTest (tOp (uNe K) (tFld K (tVar 0) "vector") (tFld K (tVar 1) "vector"))) (tTest (tOp (uNe K) (tFld K (tVar 0) "words") (tFld K (tVar 1) "words"))))) (tRet (tC (.bl false))) tNext)
    (tRet (tCal (sp_same_fields K c) (tCons (tFld K (tVar 0) "fields") (tCons (tFld K (tVar 1) "fields") tNil))))))
def P_Record_eq : PSt :=
    (pSeq (pIfS (pNot (pTru (pIsC "Record" (pVar 1)))) (pRet (pC (.bl false))) pNext)
    (pSeq (pIfS (pOr (pTest (pOp pNe (pFld (pVar 0) "name") (pFld (pVar 1) "name"))) (pOr (pTest (pOp pNe (pFld (pVar 0) "vector") (pFld (pVar 1) "vector"))) (pTest (pOp pNe (pFld (pVar 0) "words") (pFld (pVar 1) "words"))))) (pRet (pC (.bl false))) pNext)
    (pRet (pCal ps_same_fields (pCons (pFld (pVar 0) "fields") (pCons (pFld (pVar 1) "fields") pNil))))))
theorem S_Record_eq {K : PySem.W.Frag} {c : CEnv} {W : WX} {Wp : WP} : SimS ⟨K, c, W, Wp⟩ (T_Record_eq K c) (P_Record_eq) := by
  unfold T_Record_eq P_Record_eq
  exact (sim_seq (sim_ifS (sim_not (sim_tru (sim_isC (sim_var 1)))) (sim_ret (sim_bl _)) sim_next)
    (sim_seq (sim_ifS (sim_or (sim_test (sim_op sim_ne (sim_fld (sim_var 0)) (sim_fld (sim_var 1)))) (sim_or (sim_test (sim_op sim_ne (sim_fld (sim_var 0)) (sim_fld (sim_var 1)))) (sim_test (sim_op sim_ne (sim_fld (sim_var 0)) (sim_fld (sim_var 1)))))) (sim_ret (sim_bl _)) sim_next)
    (sim_ret (sim_cal b_same_fields (sim_cons (sim_fld (sim_var 0)) (sim_cons (sim_fld (sim_var 1)) sim_nil))))))

theorem q_Record_eq : ∀ ds Q E, ps_Record_eq ds Q E → ds.length = 2 ∧ P_Record_eq { nx := fun _ => Q .non, rt := Q } (startP 2 ds) := by
  rintro _ Q E ⟨l, e, rfl, h, q⟩
  refine ⟨rfl, ?_⟩
  show P_Record_eq _ [some (.d (.ins "Record" RK l)), some (.d e)]
  unfold P_Record_eq
  walk_at "pz"
  refine p_isAsk h (fun m he hm ho => ?_) (fun ef => ?_)
  · subst he
    obtain ⟨n, v, lf, lw, n2, v2, lf2, lw2, rfl, rfl, fn, fn2, fv, fv2, ff, ff2, fw, fw2⟩ := ho
    have ed : eqD (.ins "Record" RK [n, .tup v, .tup (prD lf), .tup (prD lw)]) (.ins "Record" RK [n2, .tup v2, .tup (prD lf2), .tup (prD lw2)]) = (eqD n n2 && (eqD (.tup v) (.tup v2) && (eqF (.tup (prD lf)) (.tup (prD lf2)) && eqD (.tup (prD lw)) (.tup (prD lw2))))) := by simp [eqD, eqRs]
    rw [ed] at q
    walk_at "px"
    refine p_nef fn fn2 ?_
    cases c1 : eqD n n2 with
    | false => rw [c1] at q; walk_at "px"; exact q
    | true =>
      walk_at "px"
      refine ⟨1, by decide, Cq.tup (Cq.flats fv fv2), ?_⟩
      cases c2 : eqD (.tup v) (.tup v2) with
      | false => rw [c1, c2] at q; walk_at "px"; exact q
      | true =>
        walk_at "px"
        refine ⟨2, by decide, Cq.tup (fun i x y hx hy => ?_), ?_⟩
        · obtain ⟨z, _, m1, rfl⟩ := prD_get hx
          obtain ⟨z2, _, m2, rfl⟩ := prD_get hy
          exact Cq.tup (Cq.flats (by simp [fw _ m1]) (by simp [fw2 _ m2]))
        cases c3 : eqD (.tup (prD lw)) (.tup (prD lw2)) with
        | false => rw [c1, c2, c3] at q; walk_at "px"; simpa using q
        | true =>
          rw [c1, c2, c3] at q
          walk_at "px"
          exact ⟨_, _, rfl, ff, ff2, by simpa using q⟩
  · rw [ef] at q
    walk_at "px"
    exact q
theorem w_Record_eq {K : PySem.W.Frag} {c : CEnv} : Wd (T_Record_eq K c) N_Record_eq 2 (sp_Record_eq K c) := wd_lift S_Record_eq q_Record_eq

local macro_rules | `(tactic| walk_at "pu") => `(tactic| (with_reducible first | refine p_istr ?_ | refine p_cstT ?_ | refine p_kout ?_ | refine p_kin ?_ | refine p_kst ?_ | refine p_ord ?_ | refine p_izip2 ?_ | refine p_izip3 ?_ | (refine p_zip2 (by first | exact seqL | exact seqT | assumption) (by first | exact seqL | exact seqT | assumption) ?_) | (refine p_zip3 (by first | exact seqL | exact seqT | assumption) (by first | exact seqL | exact seqT | assumption) (by first | exact seqL | exact seqT | assumption) ?_) | (refine p_lenS (by omega) ?_)))
local macro_rules | `(tactic| walk_at "pv") => `(tactic| repeat (first | walk_at "p1" | walk_at "pu"))
local macro_rules | `(tactic| walk_at "pw") => `(tactic| repeat (first | walk_at "p1" | walk_at "pu" | walk_at "pd"))

/-! whether a fact about vectors holds -/
abbrev recV (n : Da) (v : List Int) (f w : Da) : Da := .ins "Record" RK [n, .tup (iD v), f, w]
def holdP (v : List Int) (p : PartF) : Bool := decide (distZ p.2.1 (cutZ v p) ≤ p.2.2)
def partsH (l : List PartF) (v : List Int) : Bool := fitsP l v.length && l.all (holdP v)
def cellH (a b v : List Int) : Bool := fit2 a b v.length && decide (distZ v a ≤ distZ v b)
def box2 (a b v : List Int) (i : Nat) : Bool := decide (a.getD i 0 ≤ v.getD i 0) && decide (v.getD i 0 ≤ b.getD i 0)
def boxH (a b v : List Int) : Bool := fit2 a b v.length && (List.range v.length).all (box2 a b v)
def normsH (a b : Int) (v : List Int) : Bool := decide (a ≤ innerZ v v) && decide (innerZ v v ≤ b)
def differH (a : List Int) (m : Int) (v : List Int) : Bool := decide (a.length = v.length) && decide (diffZ a v ≤ m)
theorem all_range_succ {f : Nat → Bool} {i : Nat} : (List.range (i + 1)).all f = ((List.range i).all f && f i) := by rw [List.range_succ, List.all_append]; simp
theorem all_range_false {f : Nat → Bool} {n i : Nat} (hi : i < n) (h : f i = false) : (List.range n).all f = false := by
  rw [Bool.eq_false_iff]
  intro z
  have := List.all_eq_true.mp z i (List.mem_range.mpr hi)
  rw [h] at this; cases this
theorem all_false {α : Type} {f : α → Bool} {l : List α} {a : α} (hi : a ∈ l) (h : f a = false) : l.all f = false := by
  rw [Bool.eq_false_iff]
  intro z
  have := List.all_eq_true.mp z a hi
  rw [h] at this; cases this
/-! Parts_holds -/
def ps_Parts_holds : PSp := fun ds Q _ => ∃ (l : List PartF) (n : Da) (v : List Int) (f w : Da), ds = [partsD l, recV n v f w] ∧ (∀ p ∈ l, POk p) ∧ VOk v ∧ Q (.bl (partsH l v))
def sp_Parts_holds (K : PySem.W.Frag) (c : CEnv) : Sp := lift K c ps_Parts_holds
theorem b_Parts_holds {K : PySem.W.Frag} {c : CEnv} : SpSim K c (sp_Parts_holds K c) ps_Parts_holds := spSim_lift
abbrev N_Parts_holds : List Str := ["self", "record", "part"]
-- Parts.holds(self, record): slots 0:self 1:record 2:part
def T_Parts_holds_b1 (K : PySem.W.Frag) (c : CEnv) : TS :=
    (tIfS (tTest (tOp uGt (tCal (sp_distance K c) (tCons (tFld K (tVar 2) "centre") (tCons (tMt c "Part" "cut" (sp_Part_cut K c) (tVar 2) (tCons (tFld K (tVar 1) "vector") tNil)) tNil))) (tFld K (tVar 2) "radius"))) (tRet (tC (.bl false))) tNext)
def T_Parts_holds (K : PySem.W.Frag) (c : CEnv) : TS :=
    (tSeq (tIfS (tNot (tTru K (tMt c "Parts" "fits" (sp_Parts_fits K c) (tVar 0) (tCons (tFld K (tVar 1) "vector") tNil)))) (tRet (tC (.bl false))) tNext)
    (tSeq (tFor (iSq K (tFld K (tVar 0) "parts")) (gName 2) (T_Parts_holds_b1 K c))
    (tRet (tC (.bl true)))))
def P_Parts_holds_b1 : PSt :=
    (pIfS (pTest (pOp pGt (pCal ps_distance (pCons (pFld (pVar 2) "centre") (pCons (pMt "Part" "cut" ps_Part_cut (pVar 2) (pCons (pFld (pVar 1) "vector") pNil)) pNil))) (pFld (pVar 2) "radius"))) (pRet (pC (.bl false))) pNext)
def P_Parts_holds : PSt :=
    (pSeq (pIfS (pNot (pTru (pMt "Parts" "fits" ps_Parts_fits (pVar 0) (pCons (pFld (pVar 1) "vector") pNil)))) (pRet (pC (.bl false))) pNext)
    (pSeq (pFor (piSq (pFld (pVar 0) "parts")) (pgName 2) P_Parts_holds_b1)
    (pRet (pC (.bl true)))))
theorem S_Parts_holds {K : PySem.W.Frag} {c : CEnv} : SimS ⟨K, c, W0, fun _ _ => False⟩ (T_Parts_holds K c) (P_Parts_holds) := by
  unfold T_Parts_holds P_Parts_holds T_Parts_holds_b1 P_Parts_holds_b1
  exact (sim_seq (sim_ifS (sim_not (sim_tru (sim_mt b_Parts_fits (sim_var 0) (sim_cons (sim_fld (sim_var 1)) sim_nil)))) (sim_ret (sim_bl _)) sim_next)
    (sim_seq (sim_for (sim_iSq (sim_fld (sim_var 0))) (sim_gName 2) (sim_ifS (sim_test (sim_op sim_gt (sim_cal b_distance (sim_cons (sim_fld (sim_var 2)) (sim_cons (sim_mt b_Part_cut (sim_var 2) (sim_cons (sim_fld (sim_var 1)) sim_nil)) sim_nil))) (sim_fld (sim_var 2)))) (sim_ret (sim_bl _)) sim_next))
    (sim_ret (sim_bl _))))

theorem q_Parts_holds : ∀ ds Q E, ps_Parts_holds ds Q E → ds.length = 2 ∧ P_Parts_holds { nx := fun _ => Q .non, rt := Q } (startP 3 ds) := by
  rintro _ Q E ⟨l, n, z, f, w, rfl, ok, oz, q⟩
  refine ⟨rfl, ?_⟩
  show P_Parts_holds _ [some (.d (partsD l)), some (.d (recV n z f w)), none]
  unfold P_Parts_holds
  have ez : partsH l z = (fitsP l z.length && l.all (holdP z)) := rfl
  walk_at "pv"
  refine ⟨l, _, _, rfl, .inr rfl, ?_⟩
  rw [List.length_map]
  walk_at "pv"
  cases c : fitsP l z.length with
  | false =>
    walk_at "pw"
    rw [ez, c] at q
    exact q
  | true =>
    rw [c, Bool.true_and] at ez
    walk_at "pw"
    refine p_loop (fun i ρ => (∃ x2, ρ = [some (.d (partsD l)), some (.d (recV n z f w)), x2]) ∧ l.all (holdP z) = (l.drop i).all (holdP z)) ?_ ?_ ?_
    · exact ⟨⟨_, rfl⟩, rfl⟩
    · rintro i x ρ' hx ⟨⟨x2, rfl⟩, ih⟩
      obtain ⟨p, hp, rfl⟩ := mapD_get hx
      obtain ⟨o1, o2, o3⟩ := ok p (List.mem_of_getElem? hp)
      have hi := fits_at c hp
      rw [all_drop hp] at ih
      unfold P_Parts_holds_b1
      walk_at "pv"
      refine ⟨p, _, z, rfl, .inr rfl, hi, fun r sr => ?_⟩
      walk_at "pv"
      refine ⟨_, r, p.2.1, cutZ z p, rfl, .inr rfl, sr, (cutZ_len hi).symm, o1, cutZ_bd oz.1, ?_⟩
      walk_at "pv"
      refine z_itD (fun c => ?_) (fun c => ?_)
      · walk_at "pv"
        rw [ez, ih, show holdP z p = false from decide_eq_false (by omega)] at q
        exact q
      · walk_at "pv"
        refine ⟨⟨_, rfl⟩, ?_⟩
        rw [ih, show holdP z p = true from decide_eq_true (by omega), Bool.true_and]
    · rintro ρ' ⟨⟨x2, rfl⟩, ih⟩
      rw [List.length_map, List.drop_length] at ih
      walk_at "pv"
      rw [ez, ih] at q
      exact q
theorem w_Parts_holds {K : PySem.W.Frag} {c : CEnv} : Wd (T_Parts_holds K c) N_Parts_holds 2 (sp_Parts_holds K c) := wd_lift S_Parts_holds q_Parts_holds
/-! Cell_holds -/
def ps_Cell_holds : PSp := fun ds Q _ => ∃ (a b : List Int) (n : Da) (v : List Int) (f w : Da), ds = [cellD a b, recV n v f w] ∧ VOk a ∧ VOk b ∧ VOk v ∧ Q (.bl (cellH a b v))
def sp_Cell_holds (K : PySem.W.Frag) (c : CEnv) : Sp := lift K c ps_Cell_holds
theorem b_Cell_holds {K : PySem.W.Frag} {c : CEnv} : SpSim K c (sp_Cell_holds K c) ps_Cell_holds := spSim_lift
abbrev N_Cell_holds : List Str := ["self", "record", "vector"]
-- Cell.holds(self, record): slots 0:self 1:record 2:vector
def T_Cell_holds (K : PySem.W.Frag) (c : CEnv) : TS :=
    (tSeq (tAsg (tFld K (tVar 1) "vector") (gName 2))
    (tRet (tAndV (tMt c "Cell" "fits" (sp_Cell_fits K c) (tVar 0) (tCons (tVar 2) tNil)) (tOp uLe (tCal (sp_distance K c) (tCons (tVar 2) (tCons (tFld K (tVar 0) "near") tNil))) (tCal (sp_distance K c) (tCons (tVar 2) (tCons (tFld K (tVar 0) "rival") tNil)))))))
def P_Cell_holds : PSt :=
    (pSeq (pAsg (pFld (pVar 1) "vector") (pgName 2))
    (pRet (pAndV (pMt "Cell" "fits" ps_Cell_fits (pVar 0) (pCons (pVar 2) pNil)) (pOp pLe (pCal ps_distance (pCons (pVar 2) (pCons (pFld (pVar 0) "near") pNil))) (pCal ps_distance (pCons (pVar 2) (pCons (pFld (pVar 0) "rival") pNil)))))))
theorem S_Cell_holds {K : PySem.W.Frag} {c : CEnv} : SimS ⟨K, c, W0, fun _ _ => False⟩ (T_Cell_holds K c) (P_Cell_holds) := by
  unfold T_Cell_holds P_Cell_holds
  exact (sim_seq (sim_asg (sim_fld (sim_var 1)) (sim_gName 2))
    (sim_ret (sim_andV (sim_mt b_Cell_fits (sim_var 0) (sim_cons (sim_var 2) sim_nil)) (sim_op sim_le (sim_cal b_distance (sim_cons (sim_var 2) (sim_cons (sim_fld (sim_var 0)) sim_nil))) (sim_cal b_distance (sim_cons (sim_var 2) (sim_cons (sim_fld (sim_var 0)) sim_nil)))))))

theorem q_Cell_holds : ∀ ds Q E, ps_Cell_holds ds Q E → ds.length = 2 ∧ P_Cell_holds { nx := fun _ => Q .non, rt := Q } (startP 3 ds) := by
  rintro _ Q E ⟨a, b, n, z, f, w, rfl, oa, ob, oz, q⟩
  refine ⟨rfl, ?_⟩
  show P_Cell_holds _ [some (.d (cellD a b)), some (.d (recV n z f w)), none]
  unfold P_Cell_holds
  have ez : cellH a b z = (fit2 a b z.length && decide (distZ z a ≤ distZ z b)) := rfl
  walk_at "pv"
  refine ⟨a, b, _, _, rfl, .inr rfl, ?_⟩
  rw [List.length_map]
  walk_at "pv"
  cases c : fit2 a b z.length with
  | false =>
    walk_at "pw"
    rw [ez, c] at q
    exact q
  | true =>
    obtain ⟨l1, l2⟩ := fit2_of c
    walk_at "pw"
    refine ⟨_, _, z, a, rfl, .inr rfl, .inr rfl, l1.symm, oz.1, oa.1, ?_⟩
    walk_at "pv"
    refine ⟨_, _, z, b, rfl, .inr rfl, .inr rfl, l2.symm, oz.1, ob.1, ?_⟩
    walk_at "pv"
    rw [ez, c, Bool.true_and] at q
    exact q
theorem w_Cell_holds {K : PySem.W.Frag} {c : CEnv} : Wd (T_Cell_holds K c) N_Cell_holds 2 (sp_Cell_holds K c) := wd_lift S_Cell_holds q_Cell_holds
/-! Box_holds -/
def ps_Box_holds : PSp := fun ds Q _ => ∃ (a b : List Int) (n : Da) (v : List Int) (f w : Da), ds = [boxD a b, recV n v f w] ∧ Q (.bl (boxH a b v))
def sp_Box_holds (K : PySem.W.Frag) (c : CEnv) : Sp := lift K c ps_Box_holds
theorem b_Box_holds {K : PySem.W.Frag} {c : CEnv} : SpSim K c (sp_Box_holds K c) ps_Box_holds := spSim_lift
abbrev N_Box_holds : List Str := ["self", "record", "number", "low", "high"]
-- Box.holds(self, record): slots 0:self 1:record 2:number 3:low 4:high
def T_Box_holds_b1 (K : PySem.W.Frag) : TS :=
    (tIfS (tOr (tTest (tOp (uLt K) (tVar 2) (tVar 3))) (tTest (tOp uGt (tVar 2) (tVar 4)))) (tRet (tC (.bl false))) tNext)
def T_Box_holds (K : PySem.W.Frag) (c : CEnv) : TS :=
    (tSeq (tIfS (tNot (tTru K (tMt c "Box" "fits" (sp_Box_fits K c) (tVar 0) (tCons (tFld K (tVar 1) "vector") tNil)))) (tRet (tC (.bl false))) tNext)
    (tSeq (tFor (iZip3 K (tCons (tFld K (tVar 1) "vector") (tCons (tFld K (tVar 0) "low") (tCons (tFld K (tVar 0) "high") tNil)))) (gTup K 3 (gCons (gName 2) (gCons (gName 3) (gCons (gName 4) gNil)))) (T_Box_holds_b1 K))
    (tRet (tC (.bl true)))))
def P_Box_holds_b1 : PSt :=
    (pIfS (pOr (pTest (pOp pLt (pVar 2) (pVar 3))) (pTest (pOp pGt (pVar 2) (pVar 4)))) (pRet (pC (.bl false))) pNext)
def P_Box_holds : PSt :=
    (pSeq (pIfS (pNot (pTru (pMt "Box" "fits" ps_Box_fits (pVar 0) (pCons (pFld (pVar 1) "vector") pNil)))) (pRet (pC (.bl false))) pNext)
    (pSeq (pFor (piZip3 (pCons (pFld (pVar 1) "vector") (pCons (pFld (pVar 0) "low") (pCons (pFld (pVar 0) "high") pNil)))) (pgTup 3 (pgCons (pgName 2) (pgCons (pgName 3) (pgCons (pgName 4) pgNil)))) P_Box_holds_b1)
    (pRet (pC (.bl true)))))
theorem S_Box_holds {K : PySem.W.Frag} {c : CEnv} : SimS ⟨K, c, W0, fun _ _ => False⟩ (T_Box_holds K c) (P_Box_holds) := by
  unfold T_Box_holds P_Box_holds T_Box_holds_b1 P_Box_holds_b1
  exact (sim_seq (sim_ifS (sim_not (sim_tru (sim_mt b_Box_fits (sim_var 0) (sim_cons (sim_fld (sim_var 1)) sim_nil)))) (sim_ret (sim_bl _)) sim_next)
    (sim_seq (sim_for (sim_iZip3 (sim_cons (sim_fld (sim_var 1)) (sim_cons (sim_fld (sim_var 0)) (sim_cons (sim_fld (sim_var 0)) sim_nil)))) (sim_gTup (sim_gCons (sim_gName 2) (sim_gCons (sim_gName 3) (sim_gCons (sim_gName 4) sim_gNil)))) (sim_ifS (sim_or (sim_test (sim_op sim_lt (sim_var 2) (sim_var 3))) (sim_test (sim_op sim_gt (sim_var 2) (sim_var 4)))) (sim_ret (sim_bl _)) sim_next))
    (sim_ret (sim_bl _))))

theorem q_Box_holds : ∀ ds Q E, ps_Box_holds ds Q E → ds.length = 2 ∧ P_Box_holds { nx := fun _ => Q .non, rt := Q } (startP 5 ds) := by
  rintro _ Q E ⟨a, b, n, z, f, w, rfl, q⟩
  refine ⟨rfl, ?_⟩
  show P_Box_holds _ [some (.d (boxD a b)), some (.d (recV n z f w)), none, none, none]
  unfold P_Box_holds
  have ez : boxH a b z = (fit2 a b z.length && (List.range z.length).all (box2 a b z)) := rfl
  walk_at "pv"
  refine ⟨a, b, _, _, rfl, .inr rfl, ?_⟩
  rw [List.length_map]
  walk_at "pv"
  cases c : fit2 a b z.length with
  | false =>
    walk_at "pw"
    rw [ez, c] at q
    exact q
  | true =>
    obtain ⟨l1, l2⟩ := fit2_of c
    rw [c, Bool.true_and] at ez
    walk_at "pw"
    refine p_loop (fun i ρ => (∃ x2 x3 x4, ρ = [some (.d (boxD a b)), some (.d (recV n z f w)), x2, x3, x4]) ∧ (List.range i).all (box2 a b z) = true) ?_ ?_ ?_
    · exact ⟨⟨_, _, _, rfl⟩, rfl⟩
    · rintro i x ρ' hx ⟨⟨x2, x3, x4, rfl⟩, ih⟩
      obtain ⟨g1, g2, g3, rfl⟩ := zip3_ints hx
      unfold P_Box_holds_b1
      walk_at "pv"
      refine z_itD (fun c => ?_) (fun c => ?_)
      · walk_at "pw"
        rw [ez, all_range_false g1 (show box2 a b z i = false by unfold box2; rw [decide_eq_false (by omega), Bool.false_and])] at q
        exact q
      · walk_at "pv"
        refine z_itD (fun c2 => ?_) (fun c2 => ?_)
        · walk_at "pv"
          rw [ez, all_range_false g1 (show box2 a b z i = false by unfold box2; rw [decide_eq_false (show ¬ z.getD i 0 ≤ b.getD i 0 by omega), Bool.and_false])] at q
          exact q
        · walk_at "pv"
          refine ⟨⟨_, _, _, rfl⟩, ?_⟩
          rw [all_range_succ, ih, show box2 a b z i = true by unfold box2; rw [decide_eq_true (by omega), decide_eq_true (by omega)]; rfl]; rfl
    · rintro ρ' ⟨⟨x2, x3, x4, rfl⟩, ih⟩
      rw [zip3D_len, List.length_map, List.length_map, List.length_map, l1, l2, Nat.min_self, Nat.min_self] at ih
      walk_at "pv"
      rw [ez, ih] at q
      exact q
theorem w_Box_holds {K : PySem.W.Frag} {c : CEnv} : Wd (T_Box_holds K c) N_Box_holds 2 (sp_Box_holds K c) := wd_lift S_Box_holds q_Box_holds
/-! Norms_holds -/
def ps_Norms_holds : PSp := fun ds Q _ => ∃ (a b : Int) (n : Da) (v : List Int) (f w : Da), ds = [normsD a b, recV n v f w] ∧ VOk v ∧ Q (.bl (normsH a b v))
def sp_Norms_holds (K : PySem.W.Frag) (c : CEnv) : Sp := lift K c ps_Norms_holds
theorem b_Norms_holds {K : PySem.W.Frag} {c : CEnv} : SpSim K c (sp_Norms_holds K c) ps_Norms_holds := spSim_lift
abbrev N_Norms_holds : List Str := ["self", "record"]
-- Norms.holds(self, record): slots 0:self 1:record
def T_Norms_holds (K : PySem.W.Frag) (c : CEnv) : TS :=
    (tRet (tChain uLe uLe (tFld K (tVar 0) "low") (tCal (sp_norm K c) (tCons (tFld K (tVar 1) "vector") tNil)) (tFld K (tVar 0) "high")))
def P_Norms_holds : PSt :=
    (pRet (pChain pLe pLe (pFld (pVar 0) "low") (pCal ps_norm (pCons (pFld (pVar 1) "vector") pNil)) (pFld (pVar 0) "high")))
theorem S_Norms_holds {K : PySem.W.Frag} {c : CEnv} : SimS ⟨K, c, W0, fun _ _ => False⟩ (T_Norms_holds K c) (P_Norms_holds) := by
  unfold T_Norms_holds P_Norms_holds
  exact (sim_ret (sim_chain sim_le sim_le (sim_fld (sim_var 0)) (sim_cal b_norm (sim_cons (sim_fld (sim_var 1)) sim_nil)) (sim_fld (sim_var 0))))

theorem q_Norms_holds : ∀ ds Q E, ps_Norms_holds ds Q E → ds.length = 2 ∧ P_Norms_holds { nx := fun _ => Q .non, rt := Q } (startP 2 ds) := by
  rintro _ Q E ⟨a, b, n, z, f, w, rfl, oz, q⟩
  refine ⟨rfl, ?_⟩
  show P_Norms_holds _ [some (.d (normsD a b)), some (.d (recV n z f w))]
  unfold P_Norms_holds
  have ez : normsH a b z = (decide (a ≤ innerZ z z) && decide (innerZ z z ≤ b)) := rfl
  walk_at "pv"
  refine ⟨_, z, rfl, .inr rfl, oz.1, ?_⟩
  walk_at "pv"
  cases c : decide (a ≤ innerZ z z) with
  | false =>
    walk_at "pw"
    rw [ez, c] at q
    exact q
  | true =>
    walk_at "pw"
    rw [ez, c, Bool.true_and] at q
    exact q
theorem w_Norms_holds {K : PySem.W.Frag} {c : CEnv} : Wd (T_Norms_holds K c) N_Norms_holds 2 (sp_Norms_holds K c) := wd_lift S_Norms_holds q_Norms_holds
/-! Differ_holds -/
def ps_Differ_holds : PSp := fun ds Q _ => ∃ (a : List Int) (m : Int) (n : Da) (v : List Int) (f w : Da), ds = [differD a m, recV n v f w] ∧ VOk a ∧ VOk v ∧ Q (.bl (differH a m v))
def sp_Differ_holds (K : PySem.W.Frag) (c : CEnv) : Sp := lift K c ps_Differ_holds
theorem b_Differ_holds {K : PySem.W.Frag} {c : CEnv} : SpSim K c (sp_Differ_holds K c) ps_Differ_holds := spSim_lift
abbrev N_Differ_holds : List Str := ["self", "record", "same_size"]
-- Differ.holds(self, record): slots 0:self 1:record 2:same_size
def T_Differ_holds (K : PySem.W.Frag) (c : CEnv) : TS :=
    (tSeq (tAsg (tOp (uEq K) (tCB (uLen K) (tCons (tFld K (tVar 0) "centre") tNil)) (tCB (uLen K) (tCons (tFld K (tVar 1) "vector") tNil))) (gName 2))
    (tRet (tAndV (tVar 2) (tOp uLe (tCal (sp_differing K c) (tCons (tFld K (tVar 0) "centre") (tCons (tFld K (tVar 1) "vector") tNil))) (tFld K (tVar 0) "most")))))
def P_Differ_holds : PSt :=
    (pSeq (pAsg (pOp pEq (pCB pLen (pCons (pFld (pVar 0) "centre") pNil)) (pCB pLen (pCons (pFld (pVar 1) "vector") pNil))) (pgName 2))
    (pRet (pAndV (pVar 2) (pOp pLe (pCal ps_differing (pCons (pFld (pVar 0) "centre") (pCons (pFld (pVar 1) "vector") pNil))) (pFld (pVar 0) "most")))))
theorem S_Differ_holds {K : PySem.W.Frag} {c : CEnv} : SimS ⟨K, c, W0, fun _ _ => False⟩ (T_Differ_holds K c) (P_Differ_holds) := by
  unfold T_Differ_holds P_Differ_holds
  exact (sim_seq (sim_asg (sim_op sim_eq (sim_cb sim_len (sim_cons (sim_fld (sim_var 0)) sim_nil)) (sim_cb sim_len (sim_cons (sim_fld (sim_var 1)) sim_nil))) (sim_gName 2))
    (sim_ret (sim_andV (sim_var 2) (sim_op sim_le (sim_cal b_differing (sim_cons (sim_fld (sim_var 0)) (sim_cons (sim_fld (sim_var 1)) sim_nil))) (sim_fld (sim_var 0))))))

theorem q_Differ_holds : ∀ ds Q E, ps_Differ_holds ds Q E → ds.length = 2 ∧ P_Differ_holds { nx := fun _ => Q .non, rt := Q } (startP 3 ds) := by
  rintro _ Q E ⟨a, m, n, z, f, w, rfl, oa, oz, q⟩
  refine ⟨rfl, ?_⟩
  show P_Differ_holds _ [some (.d (differD a m)), some (.d (recV n z f w)), none]
  unfold P_Differ_holds
  have ez : differH a m z = (decide (a.length = z.length) && decide (diffZ a z ≤ m)) := rfl
  walk_at "pv"
  rw [List.length_map, List.length_map, show decide ((a.length : Int) = z.length) = decide (a.length = z.length) from decide_eq_decide.mpr (by omega)]
  cases c : decide (a.length = z.length) with
  | false =>
    walk_at "pw"
    rw [ez, c] at q
    exact q
  | true =>
    walk_at "pw"
    refine ⟨_, _, a, z, rfl, .inr rfl, .inr rfl, of_decide_eq_true c, oa.1, oz.1, ?_⟩
    walk_at "pv"
    rw [ez, c, Bool.true_and] at q
    exact q
theorem w_Differ_holds {K : PySem.W.Frag} {c : CEnv} : Wd (T_Differ_holds K c) N_Differ_holds 2 (sp_Differ_holds K c) := wd_lift S_Differ_holds q_Differ_holds

local macro_rules | `(tactic| walk_at "pu") => `(tactic| (with_reducible first | refine p_istr ?_ | refine p_cstT ?_ | refine p_kout ?_ | refine p_kin ?_ | refine p_kst ?_ | refine p_ord ?_ | refine p_izip2 ?_ | refine p_izip3 ?_ | (refine p_zip2 (by first | exact seqL | exact seqT | assumption) (by first | exact seqL | exact seqT | assumption) ?_) | (refine p_zip3 (by first | exact seqL | exact seqT | assumption) (by first | exact seqL | exact seqT | assumption) (by first | exact seqL | exact seqT | assumption) ?_) | (refine p_lenS (by omega) ?_)))
local macro_rules | `(tactic| walk_at "pv") => `(tactic| repeat (first | walk_at "p1" | walk_at "pu"))
local macro_rules | `(tactic| walk_at "pw") => `(tactic| repeat (first | walk_at "p1" | walk_at "pu" | walk_at "pd"))

def VF.ld (q : List Int) : VF → Int
  | .parts l => partsLd l q
  | .cell a b => cellLd a b q
  | .box a b => boxLd a b q
  | .norms a b => normsLd a b q
  | .differ _ _ => 0
def VF.lf (q : List Int) : VF → Int
  | .differ a m => differLd a m q
  | f => f.ld q
def VF.hold (q : List Int) : VF → Bool
  | .parts l => partsH l q
  | .cell a b => cellH a b q
  | .box a b => boxH a b q
  | .norms a b => normsH a b q
  | .differ a m => differH a m q
def VF.mp (q : List Int) : VF → Option Int
  | .parts l => partsMp l q
  | .cell _ _ => none
  | .box a b => boxMp a b q
  | .norms _ b => some (rootZ (innerZ q q * b))
  | .differ _ _ => none

theorem any_ld {f : VF} {d : Da} {e : PEx} {t : PAr} {ρ : PEnv} {Q : Da → Prop} (ha : ∀ Q : Da → Prop, Q f.da → e ρ Q) (ht : ∀ Q : List Da → Prop, Q [d] → t ρ Q) {z : List Int} (sv : seqD d (iD z)) (ok : f.Ok) (oz : VOk z) (q : Q (.int (f.ld z))) : (pAny (pMt "Parts" "least_distance" ps_Parts_least_distance e t) (pAny (pMt "Cell" "least_distance" ps_Cell_least_distance e t) (pAny (pMt "Box" "least_distance" ps_Box_least_distance e t) (pAny (pMt "Norms" "least_distance" ps_Norms_least_distance e t) (pMt "Differ" "least_distance" ps_Fact_least_distance e t))))) ρ Q := by
  cases f with
  | parts l =>
    refine p_anyL ?_
    refine p_mt (ha _ (p_insM (by with_unfolding_all rfl) (ht _ ?_)))
    exact ⟨l, _, z, rfl, sv, fun p hp => part_ok (ok.2 p hp), oz, q⟩
  | cell a b =>
    refine p_anyR (p_anyL ?_)
    refine p_mt (ha _ (p_insM (by with_unfolding_all rfl) (ht _ ?_)))
    exact ⟨a, b, _, z, rfl, sv, ok.1.ok, ok.2.ok, oz, q⟩
  | box a b =>
    refine p_anyR (p_anyR (p_anyL ?_))
    refine p_mt (ha _ (p_insM (by with_unfolding_all rfl) (ht _ ?_)))
    exact ⟨a, b, _, z, rfl, sv, ok.1.ok, ok.2.ok, oz, q⟩
  | norms a b =>
    refine p_anyR (p_anyR (p_anyR (p_anyL ?_)))
    refine p_mt (ha _ (p_insM (by with_unfolding_all rfl) (ht _ ?_)))
    exact ⟨a, b, _, z, rfl, sv, ok.1.short, ok.2.short, oz, q⟩
  | differ a b =>
    refine p_anyR (p_anyR (p_anyR (p_anyR ?_)))
    refine p_mt (ha _ (p_insM (by with_unfolding_all rfl) (ht _ ?_)))
    exact ⟨_, _, rfl, q⟩
/-! Fact_least_differing -/
def ps_Fact_least_differing : PSp := fun ds Q _ => ∃ (f : VF) (v : Da) (q : List Int), ds = [f.da, v] ∧ seqD v (iD q) ∧ f.Ok ∧ VOk q ∧ Q (.int (f.ld q))
def sp_Fact_least_differing (K : PySem.W.Frag) (c : CEnv) : Sp := lift K c ps_Fact_least_differing
theorem b_Fact_least_differing {K : PySem.W.Frag} {c : CEnv} : SpSim K c (sp_Fact_least_differing K c) ps_Fact_least_differing := spSim_lift
abbrev N_Fact_least_differing : List Str := ["self", "q"]
-- Fact.least_differing(self, q): slots 0:self 1:q
def T_Fact_least_differing (K : PySem.W.Frag) (c : CEnv) : TS :=
    (tRet (tAny (tMt c "Parts" "least_distance" (sp_Parts_least_distance K c) (tVar 0) (tCons (tVar 1) tNil)) (tAny (tMt c "Cell" "least_distance" (sp_Cell_least_distance K c) (tVar 0) (tCons (tVar 1) tNil)) (tAny (tMt c "Box" "least_distance" (sp_Box_least_distance K c) (tVar 0) (tCons (tVar 1) tNil)) (tAny (tMt c "Norms" "least_distance" (sp_Norms_least_distance K c) (tVar 0) (tCons (tVar 1) tNil)) (tMt c "Differ" "least_distance" (sp_Fact_least_distance K c) (tVar 0) (tCons (tVar 1) tNil)))))))
def P_Fact_least_differing : PSt :=
    (pRet (pAny (pMt "Parts" "least_distance" ps_Parts_least_distance (pVar 0) (pCons (pVar 1) pNil)) (pAny (pMt "Cell" "least_distance" ps_Cell_least_distance (pVar 0) (pCons (pVar 1) pNil)) (pAny (pMt "Box" "least_distance" ps_Box_least_distance (pVar 0) (pCons (pVar 1) pNil)) (pAny (pMt "Norms" "least_distance" ps_Norms_least_distance (pVar 0) (pCons (pVar 1) pNil)) (pMt "Differ" "least_distance" ps_Fact_least_distance (pVar 0) (pCons (pVar 1) pNil)))))))
theorem S_Fact_least_differing {K : PySem.W.Frag} {c : CEnv} : SimS ⟨K, c, W0, fun _ _ => False⟩ (T_Fact_least_differing K c) (P_Fact_least_differing) := by
  unfold T_Fact_least_differing P_Fact_least_differing
  exact (sim_ret (sim_any (sim_mt b_Parts_least_distance (sim_var 0) (sim_cons (sim_var 1) sim_nil)) (sim_any (sim_mt b_Cell_least_distance (sim_var 0) (sim_cons (sim_var 1) sim_nil)) (sim_any (sim_mt b_Box_least_distance (sim_var 0) (sim_cons (sim_var 1) sim_nil)) (sim_any (sim_mt b_Norms_least_distance (sim_var 0) (sim_cons (sim_var 1) sim_nil)) (sim_mt b_Fact_least_distance (sim_var 0) (sim_cons (sim_var 1) sim_nil)))))))

theorem q_Fact_least_differing : ∀ ds Q E, ps_Fact_least_differing ds Q E → ds.length = 2 ∧ P_Fact_least_differing { nx := fun _ => Q .non, rt := Q } (startP 2 ds) := by
  rintro _ Q E ⟨f, v, z, rfl, sv, ok, oz, q⟩
  refine ⟨rfl, ?_⟩
  show P_Fact_least_differing _ [some (.d f.da), some (.d v)]
  unfold P_Fact_least_differing
  refine p_ret ?_
  exact any_ld (fun _ q => p_var rfl q) (fun _ q => p_cons (p_var rfl (p_nil q))) sv ok oz q
theorem w_Fact_least_differing {K : PySem.W.Frag} {c : CEnv} : Wd (T_Fact_least_differing K c) N_Fact_least_differing 2 (sp_Fact_least_differing K c) := wd_lift S_Fact_least_differing q_Fact_least_differing

theorem any_lf {f : VF} {d : Da} {e : PEx} {t : PAr} {ρ : PEnv} {Q : Da → Prop} (ha : ∀ Q : Da → Prop, Q f.da → e ρ Q) (ht : ∀ Q : List Da → Prop, Q [d] → t ρ Q) {z : List Int} (sv : seqD d (iD z)) (ok : f.Ok) (oz : VOk z) (q : Q (.int (f.lf z))) : (pAny (pMt "Parts" "least_differing" ps_Fact_least_differing e t) (pAny (pMt "Cell" "least_differing" ps_Fact_least_differing e t) (pAny (pMt "Box" "least_differing" ps_Fact_least_differing e t) (pAny (pMt "Norms" "least_differing" ps_Fact_least_differing e t) (pMt "Differ" "least_differing" ps_Differ_least_differing e t))))) ρ Q := by
  cases f with
  | parts l =>
    refine p_anyL ?_
    refine p_mt (ha _ (p_insM (by with_unfolding_all rfl) (ht _ ?_)))
    exact ⟨.parts l, _, z, rfl, sv, ok, oz, q⟩
  | cell a b =>
    refine p_anyR (p_anyL ?_)
    refine p_mt (ha _ (p_insM (by with_unfolding_all rfl) (ht _ ?_)))
    exact ⟨.cell a b, _, z, rfl, sv, ok, oz, q⟩
  | box a b =>
    refine p_anyR (p_anyR (p_anyL ?_))
    refine p_mt (ha _ (p_insM (by with_unfolding_all rfl) (ht _ ?_)))
    exact ⟨.box a b, _, z, rfl, sv, ok, oz, q⟩
  | norms a b =>
    refine p_anyR (p_anyR (p_anyR (p_anyL ?_)))
    refine p_mt (ha _ (p_insM (by with_unfolding_all rfl) (ht _ ?_)))
    exact ⟨.norms a b, _, z, rfl, sv, ok, oz, q⟩
  | differ a b =>
    refine p_anyR (p_anyR (p_anyR (p_anyR ?_)))
    refine p_mt (ha _ (p_insM (by with_unfolding_all rfl) (ht _ ?_)))
    exact ⟨a, b, _, z, rfl, sv, ok.1.ok, oz, q⟩

theorem any_mp {f : VF} {d : Da} {e : PEx} {t : PAr} {ρ : PEnv} {Q : Da → Prop} (ha : ∀ Q : Da → Prop, Q f.da → e ρ Q) (ht : ∀ Q : List Da → Prop, Q [d] → t ρ Q) {z : List Int} (sv : seqD d (iD z)) (ok : f.Ok) (oz : VOk z) (q : Q (oI (f.mp z))) : (pAny (pMt "Parts" "most_product" ps_Parts_most_product e t) (pAny (pMt "Cell" "most_product" ps_Fact_most_product e t) (pAny (pMt "Box" "most_product" ps_Box_most_product e t) (pAny (pMt "Norms" "most_product" ps_Norms_most_product e t) (pMt "Differ" "most_product" ps_Fact_most_product e t))))) ρ Q := by
  cases f with
  | parts l =>
    refine p_anyL ?_
    refine p_mt (ha _ (p_insM (by with_unfolding_all rfl) (ht _ ?_)))
    exact ⟨l, _, z, rfl, sv, fun p hp => part_ok (ok.2 p hp), oz, q⟩
  | cell a b =>
    refine p_anyR (p_anyL ?_)
    refine p_mt (ha _ (p_insM (by with_unfolding_all rfl) (ht _ ?_)))
    exact ⟨_, _, rfl, q⟩
  | box a b =>
    refine p_anyR (p_anyR (p_anyL ?_))
    refine p_mt (ha _ (p_insM (by with_unfolding_all rfl) (ht _ ?_)))
    exact ⟨a, b, _, z, rfl, sv, ok.1.ok, ok.2.ok, oz, q⟩
  | norms a b =>
    refine p_anyR (p_anyR (p_anyR (p_anyL ?_)))
    refine p_mt (ha _ (p_insM (by with_unfolding_all rfl) (ht _ ?_)))
    exact ⟨a, b, _, z, rfl, sv, ok.2.short, oz, q⟩
  | differ a b =>
    refine p_anyR (p_anyR (p_anyR (p_anyR ?_)))
    refine p_mt (ha _ (p_insM (by with_unfolding_all rfl) (ht _ ?_)))
    exact ⟨_, _, rfl, q⟩

theorem any_hold {f : VF} {d : Da} {e : PEx} {t : PAr} {ρ : PEnv} {Q : Da → Prop} (ha : ∀ Q : Da → Prop, Q f.da → e ρ Q) (ht : ∀ Q : List Da → Prop, Q [d] → t ρ Q) {n : Da} {z : List Int} {g w : Da} (hd : d = recV n z g w) (ok : f.Ok) (oz : VOk z) (q : Q (.bl (f.hold z))) : (pAny (pMt "Parts" "holds" ps_Parts_holds e t) (pAny (pMt "Cell" "holds" ps_Cell_holds e t) (pAny (pMt "Box" "holds" ps_Box_holds e t) (pAny (pMt "Norms" "holds" ps_Norms_holds e t) (pMt "Differ" "holds" ps_Differ_holds e t))))) ρ Q := by
  cases f with
  | parts l =>
    refine p_anyL ?_
    refine p_mt (ha _ (p_insM (by with_unfolding_all rfl) (ht _ ?_)))
    subst hd; exact ⟨l, n, z, g, w, rfl, fun p hp => part_ok (ok.2 p hp), oz, q⟩
  | cell a b =>
    refine p_anyR (p_anyL ?_)
    refine p_mt (ha _ (p_insM (by with_unfolding_all rfl) (ht _ ?_)))
    subst hd; exact ⟨a, b, n, z, g, w, rfl, ok.1.ok, ok.2.ok, oz, q⟩
  | box a b =>
    refine p_anyR (p_anyR (p_anyL ?_))
    refine p_mt (ha _ (p_insM (by with_unfolding_all rfl) (ht _ ?_)))
    subst hd; exact ⟨a, b, n, z, g, w, rfl, q⟩
  | norms a b =>
    refine p_anyR (p_anyR (p_anyR (p_anyL ?_)))
    refine p_mt (ha _ (p_insM (by with_unfolding_all rfl) (ht _ ?_)))
    subst hd; exact ⟨a, b, n, z, g, w, rfl, oz, q⟩
  | differ a b =>
    refine p_anyR (p_anyR (p_anyR (p_anyR ?_)))
    refine p_mt (ha _ (p_insM (by with_unfolding_all rfl) (ht _ ?_)))
    subst hd; exact ⟨a, b, n, z, g, w, rfl, ok.1.ok, oz, q⟩

/-! ### the bounds are safe -/
theorem foldl_add (l : List Int) (a : Int) : l.foldl (· + ·) a = a + l.foldl (· + ·) 0 := by
  induction l generalizing a with
  | nil => simp
  | cons x l ih => rw [List.foldl_cons, List.foldl_cons, ih, ih (0 + x)]; omega
theorem sumF_cons {α : Type} {f : α → Int} {a : α} {l : List α} : sumF f (a :: l) = f a + sumF f l := by
  unfold sumF
  rw [List.map_cons, List.foldl_cons, foldl_add]; omega
theorem sumF_le {α : Type} {f g : α → Int} : ∀ {l : List α}, (∀ a ∈ l, f a ≤ g a) → sumF f l ≤ sumF g l
  | [], _ => Int.le_refl _
  | a :: l, h => by
    rw [sumF_cons, sumF_cons]
    have := h a (List.mem_cons_self ..)
    have := sumF_le (l := l) fun b hb => h b (List.mem_cons_of_mem _ hb)
    omega
theorem dist_split : ∀ (a b : List Int) (k : Nat), distZ a b = distZ (a.take k) (b.take k) + distZ (a.drop k) (b.drop k)
  | [], b, k => by simp [distZ]
  | x :: a, [], k => by cases k <;> simp [distZ]
  | x :: a, y :: b, 0 => by simp [distZ]
  | x :: a, y :: b, k + 1 => by
    show _ + distZ a b = (_ + distZ (a.take k) (b.take k)) + distZ (a.drop k) (b.drop k)
    rw [dist_split a b k]; omega
theorem inner_split : ∀ (a b : List Int) (k : Nat), innerZ a b = innerZ (a.take k) (b.take k) + innerZ (a.drop k) (b.drop k)
  | [], b, k => by simp [innerZ]
  | x :: a, [], k => by cases k <;> simp [innerZ]
  | x :: a, y :: b, 0 => by simp [innerZ]
  | x :: a, y :: b, k + 1 => by
    show _ + innerZ a b = (_ + innerZ (a.take k) (b.take k)) + innerZ (a.drop k) (b.drop k)
    rw [inner_split a b k]; omega
theorem slices {n : Nat} {q v : List Int} (hq : q.length = n) (hv : v.length = n) : ∀ (l : List PartF) (e : Int), 0 ≤ e → apartP e l = true → (∀ p ∈ l, inP n p = true) → sumF (fun p => distZ (cutZ q p) (cutZ v p)) l ≤ distZ (q.drop e.toNat) (v.drop e.toNat)
  | [], e, _, _, _ => distZ_nn _ _
  | p :: l, e, h0, ha, hi => by
    rw [apartP, Bool.and_eq_true, decide_eq_true_iff] at ha
    have hp := hi p (List.mem_cons_self ..)
    unfold inP at hp
    rw [Bool.and_eq_true, decide_eq_true_iff, decide_eq_true_iff] at hp
    have ih := slices hq hv l (p.1 + (p.2.1.length : Int)) (by omega) ha.2 fun r hr => hi r (List.mem_cons_of_mem _ hr)
    rw [sumF_cons]
    have d1 := dist_split (q.drop e.toNat) (v.drop e.toNat) (p.1.toNat - e.toNat)
    rw [List.drop_drop, List.drop_drop, show e.toNat + (p.1.toNat - e.toNat) = p.1.toNat by omega] at d1
    have d2 := dist_split (q.drop p.1.toNat) (v.drop p.1.toNat) p.2.1.length
    rw [List.drop_drop, List.drop_drop, show p.1.toNat + p.2.1.length = (p.1 + (p.2.1.length : Int)).toNat by omega] at d2
    have n1 := distZ_nn ((q.drop e.toNat).take (p.1.toNat - e.toNat)) ((v.drop e.toNat).take (p.1.toNat - e.toNat))
    unfold cutZ
    unfold cutZ at ih
    omega
theorem covers_sum {n : Nat} {q v : List Int} (hq : q.length = n) (hv : v.length = n) : ∀ (l : List PartF) (e : Int), 0 ≤ e → coversP n e l = true → innerZ (q.drop e.toNat) (v.drop e.toNat) = sumF (fun p => innerZ (cutZ q p) (cutZ v p)) l
  | [], e, _, hc => by
    rw [coversP, decide_eq_true_iff] at hc
    rw [List.drop_of_length_le (by omega), List.drop_of_length_le (by omega)]; rfl
  | p :: l, e, h0, hc => by
    rw [coversP, Bool.and_eq_true, decide_eq_true_iff] at hc
    obtain ⟨rfl, hc⟩ := hc
    rw [sumF_cons, ← covers_sum hq hv l _ (by omega) hc]
    have d2 := inner_split (q.drop p.1.toNat) (v.drop p.1.toNat) p.2.1.length
    rw [List.drop_drop, List.drop_drop, show p.1.toNat + p.2.1.length = (p.1 + (p.2.1.length : Int)).toNat by omega] at d2
    exact d2
theorem inner_sub : ∀ (x y c : List Int), x.length = y.length → y.length = c.length → ∃ w : List Int, w.length = x.length ∧ innerZ w w = distZ c y ∧ innerZ x w = innerZ x y - innerZ x c
  | [], [], [], _, _ => ⟨[], rfl, rfl, rfl⟩
  | x0 :: x, y0 :: y, c0 :: c, h1, h2 => by
    obtain ⟨w, e0, e1, e2⟩ := inner_sub x y c (by simpa using h1) (by simpa using h2)
    refine ⟨(y0 - c0) :: w, by simp [e0], ?_, ?_⟩
    · show (y0 - c0) * (y0 - c0) + innerZ w w = (c0 - y0) * (c0 - y0) + distZ c y
      rw [e1, show c0 - y0 = -(y0 - c0) by omega, Int.neg_mul_neg]
    · show x0 * (y0 - c0) + innerZ x w = (x0 * y0 + innerZ x y) - (x0 * c0 + innerZ x c)
      rw [e2, Int.mul_sub]; omega
  | [], _ :: _, _, h, _ => by cases h
  | _ :: _, [], _, h, _ => by cases h
  | _, [], _ :: _, _, h => by cases h
  | _, _ :: _, [], _, h => by cases h
theorem inner_comm : ∀ a b : List Int, innerZ a b = innerZ b a
  | [], [] => rfl
  | [], _ :: _ => rfl
  | _ :: _, [] => rfl
  | x :: a, y :: b => by show x * y + innerZ a b = y * x + innerZ b a; rw [inner_comm a b, Int.mul_comm]
theorem part_safe {x y c : List Int} {r : Int} (h1 : x.length = y.length) (h2 : y.length = c.length) (hr : distZ c y ≤ r) : innerZ x y ≤ innerZ c x + rootZ (innerZ x x * r) := by
  obtain ⟨w, e0, e1, e2⟩ := inner_sub x y c h1 h2
  have n := rootZ_nn (innerZ x x * r)
  rw [inner_comm c x]
  by_cases t : innerZ x w < 0
  · omega
  · have cs := cauchy (a := x) (b := w) e0.symm
    rw [e1] at cs
    have m : innerZ x x * distZ c y ≤ innerZ x x * r := Int.mul_le_mul_of_nonneg_left hr (inner_sq_nn x)
    have := le_root (t := innerZ x w) (by omega) (Int.le_trans cs m)
    omega
theorem dist_range : ∀ {a b : List Int}, a.length = b.length → distZ a b = sumF (fun i => (a.getD i 0 - b.getD i 0) * (a.getD i 0 - b.getD i 0)) (List.range a.length) := fun {a b} h => by
  have : ∀ i, i ≤ a.length → distZ (a.take i) (b.take i) = sumF (fun i => (a.getD i 0 - b.getD i 0) * (a.getD i 0 - b.getD i 0)) (List.range i) := by
    intro i
    induction i with
    | zero => intro _; simp [distZ, sumF]
    | succ i ih => intro hi; rw [distZ_take h (by omega), sumF_range, ih (by omega)]
  rw [← this a.length (Nat.le_refl _), List.take_length, h, List.take_length]
theorem inner_range : ∀ {a b : List Int}, a.length = b.length → innerZ a b = sumF (fun i => a.getD i 0 * b.getD i 0) (List.range a.length) := fun {a b} h => by
  have : ∀ i, i ≤ a.length → innerZ (a.take i) (b.take i) = sumF (fun i => a.getD i 0 * b.getD i 0) (List.range i) := by
    intro i
    induction i with
    | zero => intro _; simp [innerZ, sumF]
    | succ i ih => intro hi; rw [innerZ_take h (by omega), sumF_range, ih (by omega)]
  rw [← this a.length (Nat.le_refl _), List.take_length, h, List.take_length]
theorem box_at {n lo hi x : Int} (h1 : lo ≤ x) (h2 : x ≤ hi) : box1 n lo hi ≤ (n - x) * (n - x) := by
  unfold box1
  split
  · rw [show n - x = -(x - n) by omega, Int.neg_mul_neg]
    exact Int.mul_le_mul (by omega) (by omega) (by omega) (by omega)
  · split
    · exact Int.mul_le_mul (by omega) (by omega) (by omega) (by omega)
    · exact sq_nn _
theorem mx_at {n lo hi x : Int} (h1 : lo ≤ x) (h2 : x ≤ hi) : n * x ≤ mx (lo * n) (hi * n) := by
  unfold mx
  rcases Int.lt_or_le n 0 with h | h
  · have : n * x ≤ lo * n := by rw [Int.mul_comm lo n]; exact Int.mul_le_mul_of_nonpos_left (by omega) h1
    split <;> omega
  · have : n * x ≤ hi * n := by rw [Int.mul_comm hi n]; exact Int.mul_le_mul_of_nonneg_left h2 h
    split <;> omega
theorem dist_zero : ∀ {a : List Int} {n : Nat}, a.length = n → distZ a (List.replicate n 0) = innerZ a a
  | [], _, rfl => rfl
  | x :: a, _, rfl => by
    show (x - 0) * (x - 0) + distZ a (List.replicate a.length 0) = x * x + innerZ a a
    rw [dist_zero rfl, Int.sub_zero]
theorem diff_comm : ∀ a b : List Int, diffZ a b = diffZ b a
  | [], [] => rfl
  | [], _ :: _ => rfl
  | _ :: _, [] => rfl
  | x :: a, y :: b => by
    show (if x = y then 0 else 1) + diffZ a b = (if y = x then 0 else 1) + diffZ b a
    rw [diff_comm a b]
    by_cases h : x = y
    · rw [if_pos h, if_pos h.symm]
    · rw [if_neg h, if_neg (fun z => h z.symm)]
theorem diff_nn : ∀ a b : List Int, 0 ≤ diffZ a b
  | [], _ => Int.le_refl _
  | _ :: _, [] => Int.le_refl _
  | x :: a, y :: b => by
    have := diff_nn a b
    show 0 ≤ (if x = y then 0 else 1) + diffZ a b
    split <;> omega
theorem diff_tri : ∀ (a b c : List Int), a.length = b.length → b.length = c.length → diffZ a c ≤ diffZ a b + diffZ b c
  | [], [], [], _, _ => by decide
  | x :: a, y :: b, z :: c, h1, h2 => by
    have ih := diff_tri a b c (by simpa using h1) (by simpa using h2)
    show (if x = z then 0 else 1) + diffZ a c ≤ ((if x = y then 0 else 1) + diffZ a b) + ((if y = z then 0 else 1) + diffZ b c)
    by_cases e1 : x = y
    · by_cases e2 : y = z
      · rw [if_pos e1, if_pos e2, if_pos (e1.trans e2)]; omega
      · rw [if_pos e1, if_neg e2]; split <;> omega
    · rw [if_neg e1]; split <;> split <;> omega
  | [], _ :: _, _, h, _ => by cases h
  | _ :: _, [], _, h, _ => by cases h
  | _, [], _ :: _, _, h => by cases h
  | _, _ :: _, [], _, h => by cases h
theorem bits_dist : ∀ (a b : List Int), (∀ x ∈ a, x = 0 ∨ x = 1) → (∀ x ∈ b, x = 0 ∨ x = 1) → distZ a b = diffZ a b
  | [], _, _, _ => rfl
  | _ :: _, [], _, _ => rfl
  | x :: a, y :: b, h1, h2 => by
    have ih := bits_dist a b (fun z hz => h1 z (List.mem_cons_of_mem _ hz)) fun z hz => h2 z (List.mem_cons_of_mem _ hz)
    show (x - y) * (x - y) + distZ a b = (if x = y then 0 else 1) + diffZ a b
    rw [ih]
    rcases h1 x (List.mem_cons_self ..) with rfl | rfl <;> rcases h2 y (List.mem_cons_self ..) with rfl | rfl <;> simp
theorem safe_ld {f : VF} {q v : List Int} (hl : v.length = q.length) (h : f.hold v = true) : f.ld q ≤ distZ q v := by
  have nn := distZ_nn q v
  cases f with
  | parts l =>
    have h : (fitsP l v.length && l.all (holdP v)) = true := h
    rw [Bool.and_eq_true] at h
    show partsLd l q ≤ _
    unfold partsLd
    split
    · rename_i g
      rw [Bool.and_eq_true] at g
      have s := slices (q := q) (v := v) rfl hl l 0 (by decide) g.2 fun p hp => List.all_eq_true.mp g.1 p hp
      refine Int.le_trans (sumF_le fun p hp => ?_) s
      have hi : inP q.length p = true := List.all_eq_true.mp g.1 p hp
      have hd := of_decide_eq_true (List.all_eq_true.mp h.2 p hp)
      have l1 := cutZ_len hi
      have l2 := cutZ_len (q := v) (p := p) (by rw [hl]; exact hi)
      exact gap_safe (a := cutZ q p) (b := p.2.1) (c := cutZ v p) l1 l2.symm (by rw [distZ_comm]; exact Int.le_refl _) hd
    · exact nn
  | cell a b =>
    have h : (fit2 a b v.length && decide (distZ v a ≤ distZ v b)) = true := h
    rw [Bool.and_eq_true, decide_eq_true_iff] at h
    obtain ⟨l1, l2⟩ := fit2_of h.1
    show cellLd a b q ≤ _
    unfold cellLd
    split
    · rw [distZ_comm q v]
      exact split_safe hl (by omega) (by omega) h.2
    · exact nn
  | box a b =>
    have h : (fit2 a b v.length && (List.range v.length).all (box2 a b v)) = true := h
    rw [Bool.and_eq_true] at h
    show boxLd a b q ≤ _
    unfold boxLd
    split
    · rw [dist_range hl.symm]
      refine sumF_le fun i hi => ?_
      have := List.all_eq_true.mp h.2 i (by rw [hl]; exact hi)
      unfold box2 at this
      rw [Bool.and_eq_true, decide_eq_true_iff, decide_eq_true_iff] at this
      exact box_at this.1 this.2
    · exact nn
  | norms a b =>
    have h : (decide (a ≤ innerZ v v) && decide (innerZ v v ≤ b)) = true := h
    rw [Bool.and_eq_true, decide_eq_true_iff, decide_eq_true_iff] at h
    show normsLd a b q ≤ _
    unfold normsLd
    split
    · refine gap_safe (a := q) (b := List.replicate q.length 0) (c := v) (by simp) (by simp [hl]) ?_ ?_
      · rw [dist_zero rfl]; exact Int.le_refl _
      · rw [distZ_comm, dist_zero hl]; exact h.2
    · split
      · rw [distZ_comm q v]
        refine gap_safe (a := v) (b := List.replicate q.length 0) (c := q) (by simp [hl]) (by simp) ?_ ?_
        · rw [dist_zero hl]; exact h.1
        · rw [distZ_comm, dist_zero rfl]; exact Int.le_refl _
      · exact nn
  | differ a m => exact nn
theorem safe_lf {f : VF} {q v : List Int} (hl : v.length = q.length) (h : f.hold v = true) (b1 : ∀ x ∈ q, x = 0 ∨ x = 1) (b2 : ∀ x ∈ v, x = 0 ∨ x = 1) : f.lf q ≤ diffZ q v := by
  have e := bits_dist q v b1 b2
  have s := safe_ld hl h
  rw [e] at s
  cases f with
  | differ a m =>
    have h : (decide (a.length = v.length) && decide (diffZ a v ≤ m)) = true := h
    rw [Bool.and_eq_true, decide_eq_true_iff, decide_eq_true_iff] at h
    show differLd a m q ≤ _
    have n := diff_nn q v
    have t := diff_tri a v q h.1 hl
    rw [diff_comm v q] at t
    unfold differLd
    split
    · split <;> omega
    · exact n
  | _ => exact s
theorem safe_mp {f : VF} {q v : List Int} {m : Int} (hl : v.length = q.length) (h : f.hold v = true) (hm : f.mp q = some m) : innerZ q v ≤ m := by
  cases f with
  | parts l =>
    have h : (fitsP l v.length && l.all (holdP v)) = true := h
    rw [Bool.and_eq_true] at h
    have hm : partsMp l q = some m := hm
    unfold partsMp at hm
    split at hm
    · rename_i g
      rw [Bool.and_eq_true] at g
      cases hm
      have s := covers_sum (q := q) (v := v) rfl hl l 0 (by decide) g.2
      rw [show innerZ q v = innerZ (q.drop (0 : Int).toNat) (v.drop (0 : Int).toNat) from rfl, s]
      refine sumF_le fun p hp => ?_
      have hi : inP q.length p = true := List.all_eq_true.mp g.1 p hp
      have hd := of_decide_eq_true (List.all_eq_true.mp h.2 p hp)
      have l1 := cutZ_len hi
      have l2 := cutZ_len (q := v) (p := p) (by rw [hl]; exact hi)
      exact part_safe (l1.trans l2.symm) l2 hd
    · cases hm
  | cell a b => cases hm
  | box a b =>
    have h : (fit2 a b v.length && (List.range v.length).all (box2 a b v)) = true := h
    rw [Bool.and_eq_true] at h
    have hm : boxMp a b q = some m := hm
    unfold boxMp at hm
    split at hm
    · cases hm
      rw [inner_range hl.symm]
      refine sumF_le fun i hi => ?_
      have := List.all_eq_true.mp h.2 i (by rw [hl]; exact hi)
      unfold box2 at this
      rw [Bool.and_eq_true, decide_eq_true_iff, decide_eq_true_iff] at this
      exact mx_at this.1 this.2
    · cases hm
  | norms a b =>
    have h : (decide (a ≤ innerZ v v) && decide (innerZ v v ≤ b)) = true := h
    rw [Bool.and_eq_true, decide_eq_true_iff, decide_eq_true_iff] at h
    cases hm
    have n := rootZ_nn (innerZ q q * b)
    by_cases t : innerZ q v < 0
    · omega
    · have cs := cauchy (a := q) (b := v) hl.symm
      have m : innerZ q q * innerZ v v ≤ innerZ q q * b := Int.mul_le_mul_of_nonneg_left h.2 (inner_sq_nn q)
      exact le_root (by omega) (Int.le_trans cs m)
  | differ a m => cases hm

local macro_rules | `(tactic| walk_at "pu") => `(tactic| (with_reducible first | refine p_istr ?_ | refine p_cstT ?_ | refine p_kout ?_ | refine p_kin ?_ | refine p_kst ?_ | refine p_ord ?_ | refine p_izip2 ?_ | refine p_izip3 ?_ | (refine p_zip2 (by first | exact seqL | exact seqT | assumption) (by first | exact seqL | exact seqT | assumption) ?_) | (refine p_zip3 (by first | exact seqL | exact seqT | assumption) (by first | exact seqL | exact seqT | assumption) (by first | exact seqL | exact seqT | assumption) ?_) | (refine p_lenS (by omega) ?_)))
local macro_rules | `(tactic| walk_at "pv") => `(tactic| repeat (first | walk_at "p1" | walk_at "pu"))
local macro_rules | `(tactic| walk_at "pw") => `(tactic| repeat (first | walk_at "p1" | walk_at "pu" | walk_at "pd"))

theorem p_pick {l : List Da} {k : Int} {Q : Da → Prop} (h0 : 0 ≤ k) (h1 : k < (l.length : Int)) (h : ∀ d ∈ l, Q d) : pIx (.lst l) (.int k) Q := by
  obtain ⟨j, rfl⟩ := Int.eq_ofNat_of_zero_le h0
  have lt : j < l.length := by omega
  exact ⟨l[j], atI_n (List.getElem?_eq_getElem lt), h _ (List.getElem_mem lt)⟩
theorem pick3 {a b c : Da} {k : Int} {Q : Da → Prop} (h0 : 0 ≤ k) (h1 : k < 3) (ha : Q a) (hb : Q b) (hc : Q c) : pIx (.lst [a, b, c]) (.int k) Q := p_pick h0 h1 fun d hd => by
  simp only [List.mem_cons, List.not_mem_nil, or_false] at hd
  rcases hd with rfl | rfl | rfl <;> assumption
theorem pick2 {a b : Da} {k : Int} {Q : Da → Prop} (h0 : 0 ≤ k) (h1 : k < 2) (ha : Q a) (hb : Q b) : pIx (.lst [a, b]) (.int k) Q := p_pick h0 h1 fun d hd => by
  simp only [List.mem_cons, List.not_mem_nil, or_false] at hd
  rcases hd with rfl | rfl <;> assumption
/-- some int of the list, within bounds -/
theorem pickI {l : List Da} {k lo hi : Int} {Q : Da → Prop} (h0 : 0 ≤ k) (h1 : k < (l.length : Int)) (hl : ∀ d ∈ l, ∃ i, d = .int i ∧ lo ≤ i ∧ i ≤ hi) (h : ∀ i, lo ≤ i → i ≤ hi → Q (.int i)) : pIx (.lst l) (.int k) Q := p_pick h0 h1 fun d hd => by
  obtain ⟨i, rfl, a, b⟩ := hl d hd
  exact h i a b
theorem allI {l : List Int} {lo hi : Int} (h : ∀ i ∈ l, lo ≤ i ∧ i ≤ hi) : ∀ d ∈ l.map Da.int, ∃ i, d = .int i ∧ lo ≤ i ∧ i ≤ hi := fun d hd => by
  obtain ⟨i, hi, rfl⟩ := List.mem_map.mp hd
  exact ⟨i, rfl, h i hi⟩
/-! law_vector -/
def ps_law_vector : PSp := fun ds Q _ => ∃ (n : Int), ds = [.st, .int n] ∧ 0 ≤ n ∧ n ≤ 1000 ∧ ∀ xs : List Int, xs.length = n.toNat → Bd 600 xs → Q (.lst (iD xs))
def sp_law_vector (K : PySem.W.Frag) (c : CEnv) : Sp := lift K c ps_law_vector
theorem b_law_vector {K : PySem.W.Frag} {c : CEnv} : SpSim K c (sp_law_vector K c) ps_law_vector := spSim_lift
abbrev N_law_vector : List Str := ["_law_state", "_law_size", "_law_spread", "_law_k"]
-- _law_vector(_law_state, _law_size_here): slots 0:_law_state 1:_law_size_here 2:_law_spread 3:_law_k
def T_law_vector (K : PySem.W.Frag) : TS :=
    (tSeq (tAsg (tOp (uIx K) (tLst (tCons (tC (.int 2)) (tCons (tC (.int 6)) (tCons (tC (.int 300)) tNil)))) (tCal (sp_law_next K) (tCons (tVar 0) (tCons (tC (.int 3)) tNil)))) (gName 2))
    (tRet (tLc (iRng1 (tCons (tVar 1) tNil)) (gName 3) tYes (tOp uSub (tCal (sp_law_next K) (tCons (tVar 0) (tCons (tOp (uAdd K) (tOp uMul (tC (.int 2)) (tVar 2)) (tC (.int 1))) tNil))) (tVar 2)) [3])))
def P_law_vector : PSt :=
    (pSeq (pAsg (pOp pIx (pLst (pCons (pC (.int 2)) (pCons (pC (.int 6)) (pCons (pC (.int 300)) pNil)))) (pCal ps_law_next (pCons (pVar 0) (pCons (pC (.int 3)) pNil)))) (pgName 2))
    (pRet (pLc (piRng1 (pCons (pVar 1) pNil)) (pgName 3) pYes (pOp pSub (pCal ps_law_next (pCons (pVar 0) (pCons (pOp pAdd (pOp pMul (pC (.int 2)) (pVar 2)) (pC (.int 1))) pNil))) (pVar 2)) [3])))
theorem S_law_vector {K : PySem.W.Frag} {c : CEnv} : SimS ⟨K, c, W0, fun _ _ => False⟩ (T_law_vector K) (P_law_vector) := by
  unfold T_law_vector P_law_vector
  exact (sim_seq (sim_asg (sim_op sim_ix (sim_lst (sim_cons (sim_int _) (sim_cons (sim_int _) (sim_cons (sim_int _) sim_nil)))) (sim_cal b_law_next (sim_cons (sim_var 0) (sim_cons (sim_int _) sim_nil)))) (sim_gName 2))
    (sim_ret (sim_lc (sim_iRng1 (sim_cons (sim_var 1) sim_nil)) (sim_gName 3) (by decide) sim_yes (sim_op sim_sub (sim_cal b_law_next (sim_cons (sim_var 0) (sim_cons (sim_op sim_add (sim_op sim_mul (sim_int _) (sim_var 2)) (sim_int _)) sim_nil))) (sim_var 2)))))

theorem q_law_vector : ∀ ds Q E, ps_law_vector ds Q E → ds.length = 2 ∧ P_law_vector { nx := fun _ => Q .non, rt := Q } (startP 4 ds) := by
  rintro _ Q E ⟨n, rfl, h0, h1, q⟩
  refine ⟨rfl, ?_⟩
  show P_law_vector _ [some (.d .st), some (.d (.int n)), none, none]
  unfold P_law_vector
  walk_at "pv"
  refine next_c (by decide) (by decide) fun a a0 a1 => ?_
  refine pickI (l := [2, 6, 300].map Da.int) (lo := 2) (hi := 300) a0 a1 (allI (by decide)) fun s s0 s1 => ?_
  walk_at "pv"
  refine p_rng1 (by omega) ?_
  refine p_compS Da.int (fun i => -600 ≤ i ∧ i ≤ 600) (by rw [rngD_len]; omega) ?_ fun as hl hp => ?_
  · intro i x k hx hk
    obtain ⟨_, rfl⟩ := rngD_get hx
    walk_at "pv"
    refine next_c (by omega) (by omega) fun r r0 r1 => ?_
    walk_at "pv"
    exact hk _ ⟨by omega, by omega⟩
  · walk_at "pv"
    rw [rngD_len] at hl
    exact q as hl fun x hx => hp x hx
theorem w_law_vector {K : PySem.W.Frag} {c : CEnv} : Wd (T_law_vector K) N_law_vector 2 (sp_law_vector K c) := wd_lift S_law_vector q_law_vector
/-! law_parts -/
def ps_law_parts : PSp := fun ds Q _ => ∃ (n : Int), ds = [.st, .int n] ∧ 0 ≤ n ∧ n ≤ 100 ∧ ∀ l : List PartF, (VF.parts l).Ok → Q (.lst (l.map rowP))
def sp_law_parts (K : PySem.W.Frag) (c : CEnv) : Sp := lift K c ps_law_parts
theorem b_law_parts {K : PySem.W.Frag} {c : CEnv} : SpSim K c (sp_law_parts K c) ps_law_parts := spSim_lift
abbrev N_law_parts : List Str := ["_law_state", "_law_size_here", "_law_parts_here", "_law_place", "_law_k", "_law_long"]
-- _law_parts(_law_state, _law_size_here): slots 0:_law_state 1:_law_size_here 2:_law_parts_here 3:_law_place 4:_law_k 5:_law_long
def T_law_parts_b1 (K : PySem.W.Frag) (c : CEnv) : TS :=
    (tSeq (tAsg (tCal (sp_law_next K) (tCons (tVar 0) (tCons (tC (.int 3)) tNil))) (gName 5))
    (tCut (tIfS (tAnd (tTest (tOp (uEq K) (tCal (sp_law_next K) (tCons (tVar 0) (tCons (tC (.int 3)) tNil))) (tC (.int 0)))) (tTest (tOp (uLt K) (tVar 3) (tVar 1)))) (tAsg (tOp uSub (tVar 1) (tVar 3)) (gName 5)) tNext)
    (tSeq (tDrop (tBM K "list" rAppend (tVar 2) (tCons (tTup (tCons (tVar 3) (tCons (tCal (sp_law_vector K c) (tCons (tVar 0) (tCons (tVar 5) tNil))) (tCons (tOp uMul (tCal (sp_law_next K) (tCons (tVar 0) (tCons (tC (.int 40)) tNil))) (tCal (sp_law_next K) (tCons (tVar 0) (tCons (tC (.int 40)) tNil)))) tNil)))) tNil)))
    (tSeq (tAsg (tOp (uAdd K) (tOp (uAdd K) (tVar 3) (tVar 5)) (tOp (uIx K) (tLst (tCons (tC (.int 0)) (tCons (tC (.int 0)) (tCons (tC (.int 0)) (tCons (tC (.int 1)) (tCons (tUn uNeg (tC (.int 1))) tNil)))))) (tCal (sp_law_next K) (tCons (tVar 0) (tCons (tC (.int 5)) tNil))))) (gName 3))
    (tIfS (tTest (tOp (uLt K) (tVar 3) (tC (.int 0)))) (tAsg (tC (.int 0)) (gName 3)) tNext)))))
def T_law_parts (K : PySem.W.Frag) (c : CEnv) : TS :=
    (tSeq (tAsg (tLst tNil) (gName 2))
    (tSeq (tAsg (tOp (uIx K) (tLst (tCons (tC (.int 0)) (tCons (tC (.int 0)) (tCons (tC (.int 1)) (tCons (tCal (sp_law_next K) (tCons (tVar 0) (tCons (tC (.int 3)) tNil))) tNil))))) (tCal (sp_law_next K) (tCons (tVar 0) (tCons (tC (.int 4)) tNil)))) (gName 3))
    (tCut (tIfS (tTest (tOp (uEq K) (tCal (sp_law_next K) (tCons (tVar 0) (tCons (tC (.int 9)) tNil))) (tC (.int 0)))) (tAsg (tUn uNeg (tC (.int 1))) (gName 3)) tNext)
    (tSeq (tFor (iRng1 (tCons (tOp (uAdd K) (tC (.int 1)) (tCal (sp_law_next K) (tCons (tVar 0) (tCons (tC (.int 3)) tNil)))) tNil)) (gName 4) (T_law_parts_b1 K c))
    (tRet (tVar 2))))))
def P_law_parts_b1 : PSt :=
    (pSeq (pAsg (pCal ps_law_next (pCons (pVar 0) (pCons (pC (.int 3)) pNil))) (pgName 5))
    (pCut (pIfS (pAnd (pTest (pOp pEq (pCal ps_law_next (pCons (pVar 0) (pCons (pC (.int 3)) pNil))) (pC (.int 0)))) (pTest (pOp pLt (pVar 3) (pVar 1)))) (pAsg (pOp pSub (pVar 1) (pVar 3)) (pgName 5)) pNext)
    (pSeq (pApp 2 (pTup (pCons (pVar 3) (pCons (pCal ps_law_vector (pCons (pVar 0) (pCons (pVar 5) pNil))) (pCons (pOp pMul (pCal ps_law_next (pCons (pVar 0) (pCons (pC (.int 40)) pNil))) (pCal ps_law_next (pCons (pVar 0) (pCons (pC (.int 40)) pNil)))) pNil)))))
    (pSeq (pAsg (pOp pAdd (pOp pAdd (pVar 3) (pVar 5)) (pOp pIx (pLst (pCons (pC (.int 0)) (pCons (pC (.int 0)) (pCons (pC (.int 0)) (pCons (pC (.int 1)) (pCons (pUn pNeg (pC (.int 1))) pNil)))))) (pCal ps_law_next (pCons (pVar 0) (pCons (pC (.int 5)) pNil))))) (pgName 3))
    (pIfS (pTest (pOp pLt (pVar 3) (pC (.int 0)))) (pAsg (pC (.int 0)) (pgName 3)) pNext)))))
def P_law_parts : PSt :=
    (pSeq (pAsgO 2 (pNewL pNil))
    (pSeq (pAsg (pOp pIx (pLst (pCons (pC (.int 0)) (pCons (pC (.int 0)) (pCons (pC (.int 1)) (pCons (pCal ps_law_next (pCons (pVar 0) (pCons (pC (.int 3)) pNil))) pNil))))) (pCal ps_law_next (pCons (pVar 0) (pCons (pC (.int 4)) pNil)))) (pgName 3))
    (pCut (pIfS (pTest (pOp pEq (pCal ps_law_next (pCons (pVar 0) (pCons (pC (.int 9)) pNil))) (pC (.int 0)))) (pAsg (pUn pNeg (pC (.int 1))) (pgName 3)) pNext)
    (pSeq (pFor (piRng1 (pCons (pOp pAdd (pC (.int 1)) (pCal ps_law_next (pCons (pVar 0) (pCons (pC (.int 3)) pNil)))) pNil)) (pgName 4) P_law_parts_b1)
    (pFrz 2 (pRet (pVar 2)))))))
theorem S_law_parts {K : PySem.W.Frag} {c : CEnv} : SimS ⟨K, c, W0, fun _ _ => False⟩ (T_law_parts K c) (P_law_parts) := by
  unfold T_law_parts P_law_parts T_law_parts_b1 P_law_parts_b1
  exact (sim_seq (sim_asgO (simF_lst sim_nil))
    (sim_seq (sim_asg (sim_op sim_ix (sim_lst (sim_cons (sim_int _) (sim_cons (sim_int _) (sim_cons (sim_int _) (sim_cons (sim_cal b_law_next (sim_cons (sim_var 0) (sim_cons (sim_int _) sim_nil))) sim_nil))))) (sim_cal b_law_next (sim_cons (sim_var 0) (sim_cons (sim_int _) sim_nil)))) (sim_gName 3))
    (sim_cut (sim_ifS (sim_test (sim_op sim_eq (sim_cal b_law_next (sim_cons (sim_var 0) (sim_cons (sim_int _) sim_nil))) (sim_int _))) (sim_asg (sim_un sim_neg (sim_int _)) (sim_gName 3)) sim_next)
    (sim_seq (sim_for (sim_iRng1 (sim_cons (sim_op sim_add (sim_int _) (sim_cal b_law_next (sim_cons (sim_var 0) (sim_cons (sim_int _) sim_nil)))) sim_nil)) (sim_gName 4) (sim_seq (sim_asg (sim_cal b_law_next (sim_cons (sim_var 0) (sim_cons (sim_int _) sim_nil))) (sim_gName 5))
    (sim_cut (sim_ifS (sim_and (sim_test (sim_op sim_eq (sim_cal b_law_next (sim_cons (sim_var 0) (sim_cons (sim_int _) sim_nil))) (sim_int _))) (sim_test (sim_op sim_lt (sim_var 3) (sim_var 1)))) (sim_asg (sim_op sim_sub (sim_var 1) (sim_var 3)) (sim_gName 5)) sim_next)
    (sim_seq (sim_app (sim_tup (sim_cons (sim_var 3) (sim_cons (sim_cal b_law_vector (sim_cons (sim_var 0) (sim_cons (sim_var 5) sim_nil))) (sim_cons (sim_op sim_mul (sim_cal b_law_next (sim_cons (sim_var 0) (sim_cons (sim_int _) sim_nil))) (sim_cal b_law_next (sim_cons (sim_var 0) (sim_cons (sim_int _) sim_nil)))) sim_nil)))))
    (sim_seq (sim_asg (sim_op sim_add (sim_op sim_add (sim_var 3) (sim_var 5)) (sim_op sim_ix (sim_lst (sim_cons (sim_int _) (sim_cons (sim_int _) (sim_cons (sim_int _) (sim_cons (sim_int _) (sim_cons (sim_un sim_neg (sim_int _)) sim_nil)))))) (sim_cal b_law_next (sim_cons (sim_var 0) (sim_cons (sim_int _) sim_nil))))) (sim_gName 3))
    (sim_ifS (sim_test (sim_op sim_lt (sim_var 3) (sim_int _))) (sim_asg (sim_int _) (sim_gName 3)) sim_next))))))
    (sim_frz (sim_ret (sim_var 2)))))))

theorem q_law_parts : ∀ ds Q E, ps_law_parts ds Q E → ds.length = 2 ∧ P_law_parts { nx := fun _ => Q .non, rt := Q } (startP 6 ds) := by
  rintro _ Q E ⟨n, rfl, h0, h1, q⟩
  refine ⟨rfl, ?_⟩
  show P_law_parts _ [some (.d .st), some (.d (.int n)), none, none, none, none]
  unfold P_law_parts
  walk_at "pv"
  refine next_c (by decide) (by decide) fun a a0 a1 => ?_
  walk_at "pv"
  refine next_c (by decide) (by decide) fun b b0 b1 => ?_
  refine pickI (lo := 0) (hi := 3) b0 b1 (fun d hd => ?_) fun p0 g0 g1 => ?_
  · simp only [List.mem_cons, List.not_mem_nil, or_false] at hd
    rcases hd with rfl | rfl | rfl | rfl <;> exact ⟨_, rfl, by omega, by omega⟩
  walk_at "pv"
  refine p_cut (fun ρ => ∃ p, ρ = [some (.d .st), some (.d (.int n)), some (.own []), some (.d (.int p)), none, none] ∧ -1 ≤ p ∧ p ≤ 3) ?_ ?_
  · walk_at "pv"
    refine next_c (by decide) (by decide) fun c c0 c1 => ?_
    walk_at "pv"
    refine z_itD (fun _ => ?_) (fun _ => ?_)
    · walk_at "pv"
      exact ⟨_, rfl, by omega, by omega⟩
    · walk_at "pv"
      exact ⟨_, rfl, by omega, by omega⟩
  rintro ρ' ⟨p, rfl, g0, g1⟩
  walk_at "pv"
  refine next_c (by decide) (by decide) fun c c0 c1 => ?_
  walk_at "pv"
  refine p_rng1 (by omega) ?_
  refine p_loopR (fun i ρ => ∃ (ps : List PartF) (e : Int) (x4 x5 : Option Pv), ρ = [some (.d .st), some (.d (.int n)), some (.own (ps.map rowP)), some (.d (.int e)), x4, x5] ∧ ps.length ≤ i ∧ -1 ≤ e ∧ e ≤ 3 + 200 * (i : Int) ∧ ∀ p ∈ ps, V9 p.2.1 ∧ 0 ≤ p.2.2 ∧ N24 p.2.2 ∧ N24 p.1) ?_ ?_ ?_
  · exact ⟨[], p, none, none, rfl, by simp, by omega, by omega, fun p h => nomatch h⟩
  · rintro i ρ' hi ⟨ps, e, x4, x5, rfl, hl, e0, e1, ok⟩
    have hi3 : i < 3 := by omega
    unfold P_law_parts_b1
    walk_at "pv"
    refine next_c (by decide) (by decide) fun d d0 d1 => ?_
    walk_at "pv"
    refine p_cut (fun ρ => ∃ (g : Int) (x4 : Option Pv), ρ = [some (.d .st), some (.d (.int n)), some (.own (ps.map rowP)), some (.d (.int e)), x4, some (.d (.int g))] ∧ 0 ≤ g ∧ g ≤ 101) ?_ ?_
    · walk_at "pv"
      refine next_c (by decide) (by decide) fun f f0 f1 => ?_
      walk_at "pv"
      refine z_itD (fun _ => ?_) (fun _ => ?_)
      · walk_at "pv"
        refine z_itD (fun c => ?_) (fun c => ?_)
        · walk_at "pv"
          exact ⟨_, _, rfl, by omega, by omega⟩
        · walk_at "pv"
          exact ⟨_, _, rfl, by omega, by omega⟩
      · walk_at "pw"
        exact ⟨_, _, rfl, by omega, by omega⟩
    rintro ρ' ⟨g, x4, rfl, q0, q1⟩
    refine p_seq ?_
    refine p_app rfl (by rw [List.length_map]; omega) ?_
    walk_at "pv"
    refine ⟨_, rfl, by omega, by omega, fun xs hx hb => ?_⟩
    walk_at "pv"
    refine next_c (by decide) (by decide) fun u u0 u1 => ?_
    walk_at "pv"
    refine next_c (by decide) (by decide) fun w w0 w1 => ?_
    refine p_mul (by walk_at "mulok") ?_
    walk_at "pv"
    have r0 : 0 ≤ u * w := Int.mul_nonneg u0 w0
    have r1 : u * w ≤ 40 * 40 := Int.mul_le_mul (by omega) (by omega) w0 (by decide)
    generalize u * w = r at *
    have ew : ps.map rowP ++ [rowP (e, xs, r)] = (ps ++ [(e, xs, r)]).map rowP := by rw [List.map_append]; rfl
    have ok2 : ∀ p ∈ ps ++ [(e, xs, r)], V9 p.2.1 ∧ 0 ≤ p.2.2 ∧ N24 p.2.2 ∧ N24 p.1 := fun p hp => by
      rcases List.mem_append.mp hp with hp | hp
      · exact ok p hp
      · obtain rfl := List.mem_singleton.mp hp
        show V9 xs ∧ 0 ≤ r ∧ N24 r ∧ N24 e
        exact ⟨⟨hb.mono (by decide), by omega⟩, r0, ⟨by omega, by omega⟩, ⟨by omega, by omega⟩⟩
    refine next_c (by decide) (by decide) fun h h0 h1 => ?_
    refine pickI (l := [0, 0, 0, 1, -1].map Da.int) (lo := -1) (hi := 1) h0 h1 (allI (by decide)) fun s s0 s1 => ?_
    walk_at "pv"
    refine z_itD (fun c => ?_) (fun c => ?_)
    · walk_at "pv"
      exact ⟨_, 0, _, _, congrArg (fun z => [some (Pv.d .st), some (.d (.int n)), some (.own z), some (.d (.int 0)), _, _]) ew, by simp; omega, by omega, by omega, ok2⟩
    · walk_at "pv"
      exact ⟨_, _, _, _, congrArg (fun z => [some (Pv.d .st), some (.d (.int n)), some (.own z), some (.d (.int (e + g + s))), _, _]) ew, by simp; omega, by omega, by omega, ok2⟩
  · rintro ρ' ⟨ps, e, x4, x5, rfl, hl, e0, e1, ok⟩
    walk_at "pv"
    exact q ps ⟨by omega, ok⟩
theorem w_law_parts {K : PySem.W.Frag} {c : CEnv} : Wd (T_law_parts K c) N_law_parts 2 (sp_law_parts K c) := wd_lift S_law_parts q_law_parts
/-! law_rows -/
def ps_law_rows : PSp := fun ds Q _ => ∃ (n : Int), ds = [.st, .int n] ∧ 0 ≤ n ∧ n ≤ 100 ∧ ∀ l : List PartF, (VF.parts l).Ok → Q (.lst (l.map rowP))
def sp_law_rows (K : PySem.W.Frag) (c : CEnv) : Sp := lift K c ps_law_rows
theorem b_law_rows {K : PySem.W.Frag} {c : CEnv} : SpSim K c (sp_law_rows K c) ps_law_rows := spSim_lift
abbrev N_law_rows : List Str := ["_law_state", "_law_size_here", "_law_parts_here", "_law_place", "_law_k", "_law_long"]
-- _law_rows(_law_state, _law_size_here): slots 0:_law_state 1:_law_size_here 2:_law_parts_here 3:_law_place 4:_law_k 5:_law_long
def T_law_rows_b1 (K : PySem.W.Frag) (c : CEnv) : TS :=
    (tSeq (tAsg (tCB uMin (tCons (tOp uSub (tVar 1) (tVar 3)) (tCons (tCal (sp_law_next K) (tCons (tVar 0) (tCons (tC (.int 3)) tNil))) tNil))) (gName 5))
    (tCut (tIfS (tTest (tOp (uEq K) (tVar 4) (tC (.int 3)))) (tAsg (tOp uSub (tVar 1) (tVar 3)) (gName 5)) tNext)
    (tSeq (tDrop (tBM K "list" rAppend (tVar 2) (tCons (tTup (tCons (tVar 3) (tCons (tCal (sp_law_vector K c) (tCons (tVar 0) (tCons (tVar 5) tNil))) (tCons (tOp uMul (tCal (sp_law_next K) (tCons (tVar 0) (tCons (tC (.int 40)) tNil))) (tCal (sp_law_next K) (tCons (tVar 0) (tCons (tC (.int 40)) tNil)))) tNil)))) tNil)))
    (tAsg (tOp (uAdd K) (tVar 3) (tVar 5)) (gName 3)))))
def T_law_rows (K : PySem.W.Frag) (c : CEnv) : TS :=
    (tSeq (tAsg (tLst tNil) (gName 2))
    (tSeq (tAsg (tC (.int 0)) (gName 3))
    (tSeq (tFor (iRng1 (tCons (tC (.int 4)) tNil)) (gName 4) (T_law_rows_b1 K c))
    (tRet (tVar 2)))))
def P_law_rows_b1 : PSt :=
    (pSeq (pAsg (pCB pMin (pCons (pOp pSub (pVar 1) (pVar 3)) (pCons (pCal ps_law_next (pCons (pVar 0) (pCons (pC (.int 3)) pNil))) pNil))) (pgName 5))
    (pCut (pIfS (pTest (pOp pEq (pVar 4) (pC (.int 3)))) (pAsg (pOp pSub (pVar 1) (pVar 3)) (pgName 5)) pNext)
    (pSeq (pApp 2 (pTup (pCons (pVar 3) (pCons (pCal ps_law_vector (pCons (pVar 0) (pCons (pVar 5) pNil))) (pCons (pOp pMul (pCal ps_law_next (pCons (pVar 0) (pCons (pC (.int 40)) pNil))) (pCal ps_law_next (pCons (pVar 0) (pCons (pC (.int 40)) pNil)))) pNil)))))
    (pAsg (pOp pAdd (pVar 3) (pVar 5)) (pgName 3)))))
def P_law_rows : PSt :=
    (pSeq (pAsgO 2 (pNewL pNil))
    (pSeq (pAsg (pC (.int 0)) (pgName 3))
    (pSeq (pFor (piRng1 (pCons (pC (.int 4)) pNil)) (pgName 4) P_law_rows_b1)
    (pFrz 2 (pRet (pVar 2))))))
theorem S_law_rows {K : PySem.W.Frag} {c : CEnv} : SimS ⟨K, c, W0, fun _ _ => False⟩ (T_law_rows K c) (P_law_rows) := by
  unfold T_law_rows P_law_rows T_law_rows_b1 P_law_rows_b1
  exact (sim_seq (sim_asgO (simF_lst sim_nil))
    (sim_seq (sim_asg (sim_int _) (sim_gName 3))
    (sim_seq (sim_for (sim_iRng1 (sim_cons (sim_int _) sim_nil)) (sim_gName 4) (sim_seq (sim_asg (sim_cb sim_min (sim_cons (sim_op sim_sub (sim_var 1) (sim_var 3)) (sim_cons (sim_cal b_law_next (sim_cons (sim_var 0) (sim_cons (sim_int _) sim_nil))) sim_nil))) (sim_gName 5))
    (sim_cut (sim_ifS (sim_test (sim_op sim_eq (sim_var 4) (sim_int _))) (sim_asg (sim_op sim_sub (sim_var 1) (sim_var 3)) (sim_gName 5)) sim_next)
    (sim_seq (sim_app (sim_tup (sim_cons (sim_var 3) (sim_cons (sim_cal b_law_vector (sim_cons (sim_var 0) (sim_cons (sim_var 5) sim_nil))) (sim_cons (sim_op sim_mul (sim_cal b_law_next (sim_cons (sim_var 0) (sim_cons (sim_int _) sim_nil))) (sim_cal b_law_next (sim_cons (sim_var 0) (sim_cons (sim_int _) sim_nil)))) sim_nil)))))
    (sim_asg (sim_op sim_add (sim_var 3) (sim_var 5)) (sim_gName 3))))))
    (sim_frz (sim_ret (sim_var 2))))))

theorem q_law_rows : ∀ ds Q E, ps_law_rows ds Q E → ds.length = 2 ∧ P_law_rows { nx := fun _ => Q .non, rt := Q } (startP 6 ds) := by
  rintro _ Q E ⟨n, rfl, h0, h1, q⟩
  refine ⟨rfl, ?_⟩
  show P_law_rows _ [some (.d .st), some (.d (.int n)), none, none, none, none]
  unfold P_law_rows
  walk_at "pv"
  refine p_rng1 (by omega) ?_
  refine p_loopR (fun i ρ => ∃ (ps : List PartF) (e : Int) (x4 x5 : Option Pv), ρ = [some (.d .st), some (.d (.int n)), some (.own (ps.map rowP)), some (.d (.int e)), x4, x5] ∧ ps.length ≤ i ∧ 0 ≤ e ∧ e ≤ n ∧ ∀ p ∈ ps, V9 p.2.1 ∧ 0 ≤ p.2.2 ∧ N24 p.2.2 ∧ N24 p.1) ?_ ?_ ?_
  · exact ⟨[], 0, none, none, rfl, by simp, by omega, by omega, fun p h => nomatch h⟩
  · rintro i ρ' hi ⟨ps, e, x4, x5, rfl, hl, e0, e1, ok⟩
    have hi3 : i < 4 := by omega
    unfold P_law_rows_b1
    walk_at "pv"
    refine next_c (by decide) (by decide) fun d d0 d1 => ?_
    walk_at "pv"
    refine p_cut (fun ρ => ∃ (g : Int) (x4 : Option Pv), ρ = [some (.d .st), some (.d (.int n)), some (.own (ps.map rowP)), some (.d (.int e)), x4, some (.d (.int g))] ∧ 0 ≤ g ∧ g ≤ n - e) ?_ ?_
    · walk_at "pv"
      refine z_itD (fun _ => ?_) (fun _ => ?_)
      · walk_at "pv"
        exact ⟨_, _, rfl, by omega, by omega⟩
      · walk_at "pv"
        exact ⟨_, _, rfl, by split <;> omega, by split <;> omega⟩
    rintro ρ' ⟨g, x4, rfl, q0, q1⟩
    refine p_seq ?_
    refine p_app rfl (by rw [List.length_map]; omega) ?_
    walk_at "pv"
    refine ⟨_, rfl, by omega, by omega, fun xs hx hb => ?_⟩
    walk_at "pv"
    refine next_c (by decide) (by decide) fun u u0 u1 => ?_
    walk_at "pv"
    refine next_c (by decide) (by decide) fun w w0 w1 => ?_
    refine p_mul (by walk_at "mulok") ?_
    walk_at "pv"
    have r0 : 0 ≤ u * w := Int.mul_nonneg u0 w0
    have r1 : u * w ≤ 40 * 40 := Int.mul_le_mul (by omega) (by omega) w0 (by decide)
    generalize u * w = r at *
    have ew : ps.map rowP ++ [rowP (e, xs, r)] = (ps ++ [(e, xs, r)]).map rowP := by rw [List.map_append]; rfl
    have ok2 : ∀ p ∈ ps ++ [(e, xs, r)], V9 p.2.1 ∧ 0 ≤ p.2.2 ∧ N24 p.2.2 ∧ N24 p.1 := fun p hp => by
      rcases List.mem_append.mp hp with hp | hp
      · exact ok p hp
      · obtain rfl := List.mem_singleton.mp hp
        show V9 xs ∧ 0 ≤ r ∧ N24 r ∧ N24 e
        exact ⟨⟨hb.mono (by decide), by omega⟩, r0, ⟨by omega, by omega⟩, ⟨by omega, by omega⟩⟩
    exact ⟨_, e + g, _, _, congrArg (fun z => [some (Pv.d .st), some (.d (.int n)), some (.own z), some (.d (.int (e + g))), _, _]) ew, by simp; omega, by omega, by omega, ok2⟩
  · rintro ρ' ⟨ps, e, x4, x5, rfl, hl, e0, e1, ok⟩
    walk_at "pv"
    exact q ps ⟨by have : ps.length ≤ 4 := hl; omega, ok⟩
theorem w_law_rows {K : PySem.W.Frag} {c : CEnv} : Wd (T_law_rows K c) N_law_rows 2 (sp_law_rows K c) := wd_lift S_law_rows q_law_rows
/-! law_size -/
def ps_law_size : PSp := fun ds Q _ => ∃ (n : Int), ds = [.st, .int n] ∧ ∀ m, n ≤ m → m ≤ n + 1 → Q (.int m)
def sp_law_size (K : PySem.W.Frag) (c : CEnv) : Sp := lift K c ps_law_size
theorem b_law_size {K : PySem.W.Frag} {c : CEnv} : SpSim K c (sp_law_size K c) ps_law_size := spSim_lift
abbrev N_law_size : List Str := ["_law_state", "_law_size_here"]
-- _law_size(_law_state, _law_size_here): slots 0:_law_state 1:_law_size_here
def T_law_size (K : PySem.W.Frag) : TS :=
    (tRet (tOp (uIx K) (tLst (tCons (tVar 1) (tCons (tVar 1) (tCons (tVar 1) (tCons (tOp (uAdd K) (tVar 1) (tC (.int 1))) tNil))))) (tCal (sp_law_next K) (tCons (tVar 0) (tCons (tC (.int 4)) tNil)))))
def P_law_size : PSt :=
    (pRet (pOp pIx (pLst (pCons (pVar 1) (pCons (pVar 1) (pCons (pVar 1) (pCons (pOp pAdd (pVar 1) (pC (.int 1))) pNil))))) (pCal ps_law_next (pCons (pVar 0) (pCons (pC (.int 4)) pNil)))))
theorem S_law_size {K : PySem.W.Frag} {c : CEnv} : SimS ⟨K, c, W0, fun _ _ => False⟩ (T_law_size K) (P_law_size) := by
  unfold T_law_size P_law_size
  exact (sim_ret (sim_op sim_ix (sim_lst (sim_cons (sim_var 1) (sim_cons (sim_var 1) (sim_cons (sim_var 1) (sim_cons (sim_op sim_add (sim_var 1) (sim_int _)) sim_nil))))) (sim_cal b_law_next (sim_cons (sim_var 0) (sim_cons (sim_int _) sim_nil)))))

theorem q_law_size : ∀ ds Q E, ps_law_size ds Q E → ds.length = 2 ∧ P_law_size { nx := fun _ => Q .non, rt := Q } (startP 2 ds) := by
  rintro _ Q E ⟨n, rfl, q⟩
  refine ⟨rfl, ?_⟩
  show P_law_size _ [some (.d .st), some (.d (.int n))]
  unfold P_law_size
  walk_at "pv"
  refine next_c (by decide) (by decide) fun a a0 a1 => ?_
  refine pickI (lo := n) (hi := n + 1) a0 a1 (fun d hd => ?_) fun m m0 m1 => q m m0 m1
  simp only [List.mem_cons, List.not_mem_nil, or_false] at hd
  rcases hd with rfl | rfl | rfl | rfl <;> exact ⟨_, rfl, by omega, by omega⟩
theorem w_law_size {K : PySem.W.Frag} {c : CEnv} : Wd (T_law_size K) N_law_size 2 (sp_law_size K c) := wd_lift S_law_size q_law_size
/-! law_vector_fact -/
def ps_law_vector_fact : PSp := fun ds Q _ => ∃ (n : Int), ds = [.st, .int n] ∧ 0 ≤ n ∧ n ≤ 50 ∧ ∀ f : VF, f.Ok → (∀ a b, f = .norms a b → 0 ≤ a) → (∀ a b, f = .cell a b → Bd 1000 a) → Q f.row
def sp_law_vector_fact (K : PySem.W.Frag) (c : CEnv) : Sp := lift K c ps_law_vector_fact
theorem b_law_vector_fact {K : PySem.W.Frag} {c : CEnv} : SpSim K c (sp_law_vector_fact K c) ps_law_vector_fact := spSim_lift
abbrev N_law_vector_fact : List Str := ["_law_state", "_law_size_here", "_law_kind", "_law_near", "_law_rival", "_law_low", "_law_number"]
-- _law_vector_fact(_law_state, _law_size_here): slots 0:_law_state 1:_law_size_here 2:_law_kind 3:_law_near 4:_law_rival 5:_law_low 6:_law_number
def T_law_vector_fact (K : PySem.W.Frag) (c : CEnv) : TS :=
    (tSeq (tAsg (tCal (sp_law_next K) (tCons (tVar 0) (tCons (tC (.int 5)) tNil))) (gName 2))
    (tSeq (tIfS (tTest (tOp (uEq K) (tVar 2) (tC (.int 0)))) (tRet (tTup (tCons (tC (.str "parts")) (tCons (tCal (sp_law_parts K c) (tCons (tVar 0) (tCons (tVar 1) tNil))) tNil)))) tNext)
    (tSeq (tIfS (tTest (tOp (uEq K) (tVar 2) (tC (.int 1)))) (tSeq (tAsg (tCal (sp_law_vector K c) (tCons (tVar 0) (tCons (tCal (sp_law_size K c) (tCons (tVar 0) (tCons (tVar 1) tNil))) tNil))) (gName 3))
    (tSeq (tAsg (tCal (sp_law_vector K c) (tCons (tVar 0) (tCons (tCal (sp_law_size K c) (tCons (tVar 0) (tCons (tVar 1) tNil))) tNil))) (gName 4))
    (tCut (tIfS (tTest (tOp (uEq K) (tCal (sp_law_next K) (tCons (tVar 0) (tCons (tC (.int 6)) tNil))) (tC (.int 0)))) (tAsg (tCB (uList K) (tCons (tVar 3) tNil)) (gName 4)) tNext)
    (tRet (tTup (tCons (tC (.str "cell")) (tCons (tVar 3) (tCons (tVar 4) tNil)))))))) tNext)
    (tSeq (tIfS (tTest (tOp (uEq K) (tVar 2) (tC (.int 2)))) (tSeq (tAsg (tCal (sp_law_vector K c) (tCons (tVar 0) (tCons (tCal (sp_law_size K c) (tCons (tVar 0) (tCons (tVar 1) tNil))) tNil))) (gName 5))
    (tRet (tTup (tCons (tC (.str "box")) (tCons (tVar 5) (tCons (tLc (iSq K (tVar 5)) (gName 6) tYes (tOp uSub (tOp (uAdd K) (tVar 6) (tCal (sp_law_next K) (tCons (tVar 0) (tCons (tC (.int 8)) tNil)))) (tC (.int 1))) [6]) tNil)))))) tNext)
    (tSeq (tIfS (tTest (tOp (uEq K) (tVar 2) (tC (.int 3)))) (tSeq (tAsg (tCal (sp_law_next K) (tCons (tVar 0) (tCons (tC (.int 300)) tNil))) (gName 5))
    (tRet (tTup (tCons (tC (.str "norms")) (tCons (tVar 5) (tCons (tOp uSub (tOp (uAdd K) (tVar 5) (tCal (sp_law_next K) (tCons (tVar 0) (tCons (tC (.int 900)) tNil)))) (tC (.int 10))) tNil)))))) tNext)
    (tRet (tTup (tCons (tC (.str "differ")) (tCons (tCal (sp_law_vector K c) (tCons (tVar 0) (tCons (tCal (sp_law_size K c) (tCons (tVar 0) (tCons (tVar 1) tNil))) tNil))) (tCons (tCal (sp_law_next K) (tCons (tVar 0) (tCons (tC (.int 4)) tNil))) tNil))))))))))
def P_law_vector_fact : PSt :=
    (pSeq (pAsg (pCal ps_law_next (pCons (pVar 0) (pCons (pC (.int 5)) pNil))) (pgName 2))
    (pSeq (pIfS (pTest (pOp pEq (pVar 2) (pC (.int 0)))) (pRet (pTup (pCons (pC (.str "parts")) (pCons (pCal ps_law_parts (pCons (pVar 0) (pCons (pVar 1) pNil))) pNil)))) pNext)
    (pSeq (pIfS (pTest (pOp pEq (pVar 2) (pC (.int 1)))) (pSeq (pAsg (pCal ps_law_vector (pCons (pVar 0) (pCons (pCal ps_law_size (pCons (pVar 0) (pCons (pVar 1) pNil))) pNil))) (pgName 3))
    (pSeq (pAsg (pCal ps_law_vector (pCons (pVar 0) (pCons (pCal ps_law_size (pCons (pVar 0) (pCons (pVar 1) pNil))) pNil))) (pgName 4))
    (pCut (pIfS (pTest (pOp pEq (pCal ps_law_next (pCons (pVar 0) (pCons (pC (.int 6)) pNil))) (pC (.int 0)))) (pAsg (pCB pList (pCons (pVar 3) pNil)) (pgName 4)) pNext)
    (pRet (pTup (pCons (pC (.str "cell")) (pCons (pVar 3) (pCons (pVar 4) pNil)))))))) pNext)
    (pSeq (pIfS (pTest (pOp pEq (pVar 2) (pC (.int 2)))) (pSeq (pAsg (pCal ps_law_vector (pCons (pVar 0) (pCons (pCal ps_law_size (pCons (pVar 0) (pCons (pVar 1) pNil))) pNil))) (pgName 5))
    (pRet (pTup (pCons (pC (.str "box")) (pCons (pVar 5) (pCons (pLc (piSq (pVar 5)) (pgName 6) pYes (pOp pSub (pOp pAdd (pVar 6) (pCal ps_law_next (pCons (pVar 0) (pCons (pC (.int 8)) pNil)))) (pC (.int 1))) [6]) pNil)))))) pNext)
    (pSeq (pIfS (pTest (pOp pEq (pVar 2) (pC (.int 3)))) (pSeq (pAsg (pCal ps_law_next (pCons (pVar 0) (pCons (pC (.int 300)) pNil))) (pgName 5))
    (pRet (pTup (pCons (pC (.str "norms")) (pCons (pVar 5) (pCons (pOp pSub (pOp pAdd (pVar 5) (pCal ps_law_next (pCons (pVar 0) (pCons (pC (.int 900)) pNil)))) (pC (.int 10))) pNil)))))) pNext)
    (pRet (pTup (pCons (pC (.str "differ")) (pCons (pCal ps_law_vector (pCons (pVar 0) (pCons (pCal ps_law_size (pCons (pVar 0) (pCons (pVar 1) pNil))) pNil))) (pCons (pCal ps_law_next (pCons (pVar 0) (pCons (pC (.int 4)) pNil))) pNil))))))))))
theorem S_law_vector_fact {K : PySem.W.Frag} {c : CEnv} : SimS ⟨K, c, W0, fun _ _ => False⟩ (T_law_vector_fact K c) (P_law_vector_fact) := by
  unfold T_law_vector_fact P_law_vector_fact
  exact (sim_seq (sim_asg (sim_cal b_law_next (sim_cons (sim_var 0) (sim_cons (sim_int _) sim_nil))) (sim_gName 2))
    (sim_seq (sim_ifS (sim_test (sim_op sim_eq (sim_var 2) (sim_int _))) (sim_ret (sim_tup (sim_cons (sim_str _) (sim_cons (sim_cal b_law_parts (sim_cons (sim_var 0) (sim_cons (sim_var 1) sim_nil))) sim_nil)))) sim_next)
    (sim_seq (sim_ifS (sim_test (sim_op sim_eq (sim_var 2) (sim_int _))) (sim_seq (sim_asg (sim_cal b_law_vector (sim_cons (sim_var 0) (sim_cons (sim_cal b_law_size (sim_cons (sim_var 0) (sim_cons (sim_var 1) sim_nil))) sim_nil))) (sim_gName 3))
    (sim_seq (sim_asg (sim_cal b_law_vector (sim_cons (sim_var 0) (sim_cons (sim_cal b_law_size (sim_cons (sim_var 0) (sim_cons (sim_var 1) sim_nil))) sim_nil))) (sim_gName 4))
    (sim_cut (sim_ifS (sim_test (sim_op sim_eq (sim_cal b_law_next (sim_cons (sim_var 0) (sim_cons (sim_int _) sim_nil))) (sim_int _))) (sim_asg (sim_cb sim_list (sim_cons (sim_var 3) sim_nil)) (sim_gName 4)) sim_next)
    (sim_ret (sim_tup (sim_cons (sim_str _) (sim_cons (sim_var 3) (sim_cons (sim_var 4) sim_nil)))))))) sim_next)
    (sim_seq (sim_ifS (sim_test (sim_op sim_eq (sim_var 2) (sim_int _))) (sim_seq (sim_asg (sim_cal b_law_vector (sim_cons (sim_var 0) (sim_cons (sim_cal b_law_size (sim_cons (sim_var 0) (sim_cons (sim_var 1) sim_nil))) sim_nil))) (sim_gName 5))
    (sim_ret (sim_tup (sim_cons (sim_str _) (sim_cons (sim_var 5) (sim_cons (sim_lc (sim_iSq (sim_var 5)) (sim_gName 6) (by decide) sim_yes (sim_op sim_sub (sim_op sim_add (sim_var 6) (sim_cal b_law_next (sim_cons (sim_var 0) (sim_cons (sim_int _) sim_nil)))) (sim_int _))) sim_nil)))))) sim_next)
    (sim_seq (sim_ifS (sim_test (sim_op sim_eq (sim_var 2) (sim_int _))) (sim_seq (sim_asg (sim_cal b_law_next (sim_cons (sim_var 0) (sim_cons (sim_int _) sim_nil))) (sim_gName 5))
    (sim_ret (sim_tup (sim_cons (sim_str _) (sim_cons (sim_var 5) (sim_cons (sim_op sim_sub (sim_op sim_add (sim_var 5) (sim_cal b_law_next (sim_cons (sim_var 0) (sim_cons (sim_int _) sim_nil)))) (sim_int _)) sim_nil)))))) sim_next)
    (sim_ret (sim_tup (sim_cons (sim_str _) (sim_cons (sim_cal b_law_vector (sim_cons (sim_var 0) (sim_cons (sim_cal b_law_size (sim_cons (sim_var 0) (sim_cons (sim_var 1) sim_nil))) sim_nil))) (sim_cons (sim_cal b_law_next (sim_cons (sim_var 0) (sim_cons (sim_int _) sim_nil))) sim_nil))))))))))

theorem q_law_vector_fact : ∀ ds Q E, ps_law_vector_fact ds Q E → ds.length = 2 ∧ P_law_vector_fact { nx := fun _ => Q .non, rt := Q } (startP 7 ds) := by
  rintro _ Q E ⟨n, rfl, h0, h1, q⟩
  refine ⟨rfl, ?_⟩
  show P_law_vector_fact _ [some (.d .st), some (.d (.int n)), none, none, none, none, none]
  unfold P_law_vector_fact
  walk_at "pv"
  refine next_c (by decide) (by decide) fun a a0 a1 => ?_
  walk_at "pv"
  have v9 : ∀ xs : List Int, Bd 600 xs → xs.length ≤ 1000 → V9 xs := fun xs h h2 => ⟨h.mono (by decide), h2⟩
  refine z_itD (fun _ => ?_) (fun _ => ?_)
  · walk_at "pv"
    refine ⟨n, rfl, h0, by omega, fun l ok => ?_⟩
    walk_at "pv"
    exact q (.parts l) ok (fun _ _ e => nomatch e) (fun _ _ e => nomatch e)
  walk_at "pv"
  refine z_itD (fun _ => ?_) (fun _ => ?_)
  · walk_at "pv"
    refine ⟨n, rfl, fun m m0 m1 => ?_⟩
    walk_at "pv"
    refine ⟨m, rfl, by omega, by omega, fun x xl xb => ?_⟩
    walk_at "pv"
    refine ⟨n, rfl, fun m m0 m1 => ?_⟩
    walk_at "pv"
    refine ⟨m, rfl, by omega, by omega, fun y yl yb => ?_⟩
    walk_at "pv"
    refine p_cut (fun ρ => ∃ y : List Int, ρ = [some (.d .st), some (.d (.int n)), some (.d (.int a)), some (.d (.lst (iD x))), some (.d (.lst (iD y))), none, none] ∧ V9 y) ?_ ?_
    · walk_at "pv"
      refine next_c (by decide) (by decide) fun b b0 b1 => ?_
      walk_at "pv"
      refine z_itD (fun _ => ?_) (fun _ => ?_)
      · walk_at "pv"
        exact ⟨x, rfl, v9 _ xb (by omega)⟩
      · walk_at "pv"
        exact ⟨y, rfl, v9 _ yb (by omega)⟩
    rintro ρ' ⟨y, rfl, oy⟩
    walk_at "pv"
    exact q (.cell x y) ⟨v9 _ xb (by omega), oy⟩ (fun _ _ e => nomatch e) (fun _ _ e => by cases e; exact xb.mono (by decide))
  walk_at "pv"
  refine z_itD (fun _ => ?_) (fun _ => ?_)
  · walk_at "pv"
    refine ⟨n, rfl, fun m m0 m1 => ?_⟩
    walk_at "pv"
    refine ⟨m, rfl, by omega, by omega, fun x xl xb => ?_⟩
    walk_at "pv"
    refine p_compS Da.int (fun i => -700 ≤ i ∧ i ≤ 700) (by rw [List.length_map]; omega) ?_ fun as hl hp => ?_
    · intro i z k hx hk
      obtain ⟨w, hw, rfl⟩ := mapD_get hx
      have := xb w (List.mem_of_getElem? hw)
      walk_at "pv"
      refine next_c (by decide) (by decide) fun b b0 b1 => ?_
      walk_at "pv"
      exact hk _ ⟨by omega, by omega⟩
    walk_at "pv"
    rw [List.length_map] at hl
    exact q (.box x as) ⟨v9 _ xb (by omega), ⟨fun z hz => by have := hp z hz; omega, by omega⟩⟩ (fun _ _ e => nomatch e) (fun _ _ e => nomatch e)
  walk_at "pv"
  refine z_itD (fun _ => ?_) (fun _ => ?_)
  · walk_at "pv"
    refine next_c (by decide) (by decide) fun b b0 b1 => ?_
    walk_at "pv"
    refine next_c (by decide) (by decide) fun c c0 c1 => ?_
    walk_at "pv"
    exact q (.norms b (b + c - 10)) ⟨⟨by omega, by omega⟩, ⟨by omega, by omega⟩⟩ (fun _ _ e => by cases e; exact b0) (fun _ _ e => nomatch e)
  · walk_at "pv"
    refine ⟨n, rfl, fun m m0 m1 => ?_⟩
    walk_at "pv"
    refine ⟨m, rfl, by omega, by omega, fun x xl xb => ?_⟩
    walk_at "pv"
    refine next_c (by decide) (by decide) fun b b0 b1 => ?_
    walk_at "pv"
    exact q (.differ x b) ⟨v9 _ xb (by omega), ⟨by omega, by omega⟩⟩ (fun _ _ e => nomatch e) (fun _ _ e => nomatch e)
theorem w_law_vector_fact {K : PySem.W.Frag} {c : CEnv} : Wd (T_law_vector_fact K c) N_law_vector_fact 2 (sp_law_vector_fact K c) := wd_lift S_law_vector_fact q_law_vector_fact

local macro_rules | `(tactic| walk_at "pu") => `(tactic| (with_reducible first | refine p_istr ?_ | refine p_cstT ?_ | refine p_kout ?_ | refine p_kin ?_ | refine p_kst ?_ | refine p_ord ?_ | refine p_izip2 ?_ | refine p_izip3 ?_ | (refine p_zip2 (by first | exact seqL | exact seqT | assumption) (by first | exact seqL | exact seqT | assumption) ?_) | (refine p_zip3 (by first | exact seqL | exact seqT | assumption) (by first | exact seqL | exact seqT | assumption) (by first | exact seqL | exact seqT | assumption) ?_) | (refine p_lenS (by omega) ?_)))
local macro_rules | `(tactic| walk_at "pv") => `(tactic| repeat (first | walk_at "p1" | walk_at "pu"))
local macro_rules | `(tactic| walk_at "pw") => `(tactic| repeat (first | walk_at "p1" | walk_at "pu" | walk_at "pd"))

theorem p_compI {α : Type} {l : List Da} {g : PTg} {e : PEx} {us : List Nat} {ρ : PEnv} {QA : List Da → Prop} (f : α → Da) (R : Nat → α → Prop) (hn : l.length ≤ 90000) (hs : ∀ (i : Nat) (x : Da) (k : Da → Prop), l[i]? = some x → (∀ a, R i a → k (f a)) → g x (wipeP ρ us) fun ρ2 => e ρ2 k) (hd : ∀ as : List α, as.length = l.length → (∀ i a, as[i]? = some a → R i a) → QA (as.map f)) : pComp l g pYes e us ρ QA := by
  refine ⟨hn, fun i acc => ∃ as : List α, acc = as.map f ∧ as.length = i ∧ ∀ j a, as[j]? = some a → R j a, ⟨[], rfl, rfl, fun j a h => by cases h⟩, fun i x acc hx ⟨as, ha, hl, hp⟩ => ?_, fun acc ⟨as, ha, hl, hp⟩ => by subst ha; exact hd as hl hp⟩
  have := hs i x (fun y => ∃ bs : List α, acc ++ [y] = bs.map f ∧ bs.length = i + 1 ∧ ∀ j a, bs[j]? = some a → R j a) hx (fun a h => ⟨as ++ [a], by rw [ha]; simp, by simp [hl], fun j b hb => by
    rw [List.getElem?_append] at hb
    split at hb
    · exact hp j b hb
    · rename_i hj
      have hj2 : j - as.length = 0 := by
        rcases Nat.eq_zero_or_pos (j - as.length) with z | z
        · exact z
        · rw [List.getElem?_eq_none (by simp; omega)] at hb; cases hb
      rw [hj2] at hb
      cases hb
      have : j = i := by omega
      rw [this]; exact h⟩)
  refine cast (congrArg (g x (wipeP ρ us)) ?_) this
  funext ρ2
  dsimp only [pYes]
  rw [if_pos rfl]
def vL (v : List Int) : Da := .lst (iD v)
/-- vectors of one size -/
def VsOk (n : Nat) (vs : List (List Int)) : Prop := ∀ v ∈ vs, v.length = n ∧ Bd 600 v
def slZ (v : List Int) (e g : Int) : List Int := (v.drop e.toNat).take g.toNat
theorem cutD_sl {v : List Int} {e g : Int} (h0 : 0 ≤ e) (h1 : 0 ≤ g) (h2 : e + g ≤ v.length) : cutD (iD v) (some e) (some (e + g)) = iD (slZ v e g) := by
  have := cutD_in (q := v) (p := (e, List.replicate g.toNat 0, 0)) (by unfold inP; rw [decide_eq_true h0, decide_eq_true (by simp; omega)]; rfl)
  simp only [List.length_replicate] at this
  rw [show ((g.toNat : Nat) : Int) = g by omega] at this
  rw [this]
  unfold cutZ slZ
  simp
theorem slZ_len {v : List Int} {e g : Int} (h0 : 0 ≤ e) (h1 : 0 ≤ g) (h2 : e + g ≤ v.length) : (slZ v e g).length = g.toNat := by
  unfold slZ; rw [List.length_take, List.length_drop]; omega
theorem slZ_bd {b : Int} {v : List Int} {e g : Int} (h : Bd b v) : Bd b (slZ v e g) := (h.drop _).take _
theorem vmapI : ∀ {l : List (List Int)} {i : Nat} {x : Da}, (l.map vL)[i]? = some x → ∃ v, l[i]? = some v ∧ x = .lst (iD v) := fun h => by
  obtain ⟨v, hv, rfl⟩ := mapD_get h
  exact ⟨v, hv, rfl⟩
theorem dist24 {a b : List Int} (h : V9 a) (h2 : V9 b) : 0 ≤ distZ a b ∧ distZ a b ≤ 4000000000000000000000 := by
  have z := distZ_le h.1 h2.1
  have n := distZ_nn a b
  have : (a.length : Int) * (4 * (1000000000 * 1000000000)) ≤ 1000 * (4 * (1000000000 * 1000000000)) := Int.mul_le_mul_of_nonneg_right (by have := h.2; omega) (by decide)
  exact ⟨n, by omega⟩
theorem inner24 {a : List Int} (h : V9 a) : 0 ≤ innerZ a a ∧ innerZ a a ≤ 4000000000000000000000 := by
  rw [← dist_zero rfl]
  exact dist24 h ⟨fun x hx => by rw [List.eq_of_mem_replicate hx]; decide, by rw [List.length_replicate]; exact h.2⟩
theorem diff_le : ∀ a b : List Int, diffZ a b ≤ a.length
  | [], _ => by simp [diffZ]
  | _ :: _, [] => by simp [diffZ]; omega
  | x :: a, y :: b => by
    have := diff_le a b
    show (if x = y then 0 else 1) + diffZ a b ≤ ((x :: a).length : Int)
    rw [List.length_cons]
    split <;> omega
theorem cutD_tl {a : Da} {l : List Da} : cutD (a :: l) (some 1) none = l := by
  unfold cutD
  have e1 : HT.sIx (a :: l).length 0 (some 1) = 1 := by simp only [HT.sIx, List.length_cons]; split <;> omega
  rw [e1, HT.sIx_none, List.drop_one, List.tail_cons]
  exact List.take_of_length_le (by simp)
/-! law_true_parts -/
def ps_law_true_parts : PSp := fun ds Q _ => ∃ (v : List Int) (vs : List (List Int)), ds = [.st, .lst (iD v), .lst (vs.map vL)] ∧ v.length ≤ 100 ∧ vs.length ≤ 100 ∧ VsOk v.length (v :: vs) ∧ ∀ l : List PartF, (VF.parts l).Ok → (∀ u ∈ v :: vs, partsH l u = true) → Q (VF.row (.parts l))
def sp_law_true_parts (K : PySem.W.Frag) (c : CEnv) : Sp := lift K c ps_law_true_parts
theorem b_law_true_parts {K : PySem.W.Frag} {c : CEnv} : SpSim K c (sp_law_true_parts K c) ps_law_true_parts := spSim_lift
abbrev N_law_true_parts : List Str := ["_law_state", "_law_vector_here", "_law_others", "_law_parts", "_law_place", "_law_k", "_law_long", "_law_centre", "_law_number", "_law_radius", "_law_other"]
-- _law_true_parts(_law_state, _law_vector_here, _law_others): slots 0:_law_state 1:_law_vector_here 2:_law_others 3:_law_parts 4:_law_place 5:_law_k 6:_law_long 7:_law_centre 8:_law_number 9:_law_radius 10:_law_other
def T_law_true_parts_b1 (K : PySem.W.Frag) (c : CEnv) : TS :=
    (tAsg (tCB uMax (tCons (tVar 9) (tCons (tCal (sp_law_distance K c) (tCons (tVar 7) (tCons (tSl (uSl K) (tVar 10) (tPart (tVar 4)) (tPart (tOp (uAdd K) (tVar 4) (tVar 6)))) tNil))) tNil))) (gName 9))
def T_law_true_parts_b2 (K : PySem.W.Frag) (c : CEnv) : TS :=
    (tSeq (tAsg (tCB uMin (tCons (tOp uSub (tCB (uLen K) (tCons (tVar 1) tNil)) (tVar 4)) (tCons (tCal (sp_law_next K) (tCons (tVar 0) (tCons (tC (.int 3)) tNil))) tNil))) (gName 6))
    (tCut (tIfS (tTest (tOp (uEq K) (tVar 5) (tC (.int 2)))) (tAsg (tOp uSub (tCB (uLen K) (tCons (tVar 1) tNil)) (tVar 4)) (gName 6)) tNext)
    (tSeq (tAsg (tLc (iSq K (tSl (uSl K) (tVar 1) (tPart (tVar 4)) (tPart (tOp (uAdd K) (tVar 4) (tVar 6))))) (gName 8) tYes (tOp uSub (tOp (uAdd K) (tVar 8) (tCal (sp_law_next K) (tCons (tVar 0) (tCons (tC (.int 7)) tNil)))) (tC (.int 3))) [8]) (gName 7))
    (tSeq (tAsg (tC (.int 0)) (gName 9))
    (tSeq (tFor (iSq K (tOp (uAdd K) (tLst (tCons (tVar 1) tNil)) (tVar 2))) (gName 10) (T_law_true_parts_b1 K c))
    (tSeq (tDrop (tBM K "list" rAppend (tVar 3) (tCons (tTup (tCons (tVar 4) (tCons (tVar 7) (tCons (tOp (uAdd K) (tVar 9) (tCal (sp_law_next K) (tCons (tVar 0) (tCons (tC (.int 3)) tNil)))) tNil)))) tNil)))
    (tSeq (tAsg (tOp (uAdd K) (tOp (uAdd K) (tVar 4) (tVar 6)) (tOp (uIx K) (tLst (tCons (tC (.int 0)) (tCons (tC (.int 0)) (tCons (tC (.int 0)) (tCons (tC (.int 1)) tNil))))) (tCal (sp_law_next K) (tCons (tVar 0) (tCons (tC (.int 4)) tNil))))) (gName 4))
    (tIfS (tTest (tOp uGt (tVar 4) (tCB (uLen K) (tCons (tVar 1) tNil)))) (tAsg (tCB (uLen K) (tCons (tVar 1) tNil)) (gName 4)) tNext))))))))
def T_law_true_parts (K : PySem.W.Frag) (c : CEnv) : TS :=
    (tSeq (tAsg (tLst tNil) (gName 3))
    (tSeq (tAsg (tC (.int 0)) (gName 4))
    (tSeq (tFor (iRng1 (tCons (tC (.int 3)) tNil)) (gName 5) (T_law_true_parts_b2 K c))
    (tRet (tTup (tCons (tC (.str "parts")) (tCons (tVar 3) tNil)))))))
def P_law_true_parts_b1 : PSt :=
    (pAsg (pCB pMax (pCons (pVar 9) (pCons (pCal ps_law_distance (pCons (pVar 7) (pCons (pSl (pVar 10) (pPart (pVar 4)) (pPart (pOp pAdd (pVar 4) (pVar 6)))) pNil))) pNil))) (pgName 9))
def P_law_true_parts_b2 : PSt :=
    (pSeq (pAsg (pCB pMin (pCons (pOp pSub (pCB pLen (pCons (pVar 1) pNil)) (pVar 4)) (pCons (pCal ps_law_next (pCons (pVar 0) (pCons (pC (.int 3)) pNil))) pNil))) (pgName 6))
    (pCut (pIfS (pTest (pOp pEq (pVar 5) (pC (.int 2)))) (pAsg (pOp pSub (pCB pLen (pCons (pVar 1) pNil)) (pVar 4)) (pgName 6)) pNext)
    (pSeq (pAsg (pLc (piSq (pSl (pVar 1) (pPart (pVar 4)) (pPart (pOp pAdd (pVar 4) (pVar 6))))) (pgName 8) pYes (pOp pSub (pOp pAdd (pVar 8) (pCal ps_law_next (pCons (pVar 0) (pCons (pC (.int 7)) pNil)))) (pC (.int 3))) [8]) (pgName 7))
    (pSeq (pAsg (pC (.int 0)) (pgName 9))
    (pSeq (pFor (piSq (pOp pAdd (pLst (pCons (pVar 1) pNil)) (pVar 2))) (pgName 10) P_law_true_parts_b1)
    (pSeq (pApp 3 (pTup (pCons (pVar 4) (pCons (pVar 7) (pCons (pOp pAdd (pVar 9) (pCal ps_law_next (pCons (pVar 0) (pCons (pC (.int 3)) pNil)))) pNil)))))
    (pSeq (pAsg (pOp pAdd (pOp pAdd (pVar 4) (pVar 6)) (pOp pIx (pLst (pCons (pC (.int 0)) (pCons (pC (.int 0)) (pCons (pC (.int 0)) (pCons (pC (.int 1)) pNil))))) (pCal ps_law_next (pCons (pVar 0) (pCons (pC (.int 4)) pNil))))) (pgName 4))
    (pIfS (pTest (pOp pGt (pVar 4) (pCB pLen (pCons (pVar 1) pNil)))) (pAsg (pCB pLen (pCons (pVar 1) pNil)) (pgName 4)) pNext))))))))
def P_law_true_parts : PSt :=
    (pSeq (pAsgO 3 (pNewL pNil))
    (pSeq (pAsg (pC (.int 0)) (pgName 4))
    (pSeq (pFor (piRng1 (pCons (pC (.int 3)) pNil)) (pgName 5) P_law_true_parts_b2)
    (pFrz 3 (pRet (pTup (pCons (pC (.str "parts")) (pCons (pVar 3) pNil))))))))
theorem S_law_true_parts {K : PySem.W.Frag} {c : CEnv} : SimS ⟨K, c, W0, fun _ _ => False⟩ (T_law_true_parts K c) (P_law_true_parts) := by
  unfold T_law_true_parts P_law_true_parts T_law_true_parts_b2 T_law_true_parts_b1 P_law_true_parts_b2 P_law_true_parts_b1
  exact (sim_seq (sim_asgO (simF_lst sim_nil))
    (sim_seq (sim_asg (sim_int _) (sim_gName 4))
    (sim_seq (sim_for (sim_iRng1 (sim_cons (sim_int _) sim_nil)) (sim_gName 5) (sim_seq (sim_asg (sim_cb sim_min (sim_cons (sim_op sim_sub (sim_cb sim_len (sim_cons (sim_var 1) sim_nil)) (sim_var 4)) (sim_cons (sim_cal b_law_next (sim_cons (sim_var 0) (sim_cons (sim_int _) sim_nil))) sim_nil))) (sim_gName 6))
    (sim_cut (sim_ifS (sim_test (sim_op sim_eq (sim_var 5) (sim_int _))) (sim_asg (sim_op sim_sub (sim_cb sim_len (sim_cons (sim_var 1) sim_nil)) (sim_var 4)) (sim_gName 6)) sim_next)
    (sim_seq (sim_asg (sim_lc (sim_iSq (sim_sl (sim_var 1) (sim_part (sim_var 4)) (sim_part (sim_op sim_add (sim_var 4) (sim_var 6))))) (sim_gName 8) (by decide) sim_yes (sim_op sim_sub (sim_op sim_add (sim_var 8) (sim_cal b_law_next (sim_cons (sim_var 0) (sim_cons (sim_int _) sim_nil)))) (sim_int _))) (sim_gName 7))
    (sim_seq (sim_asg (sim_int _) (sim_gName 9))
    (sim_seq (sim_for (sim_iSq (sim_op sim_add (sim_lst (sim_cons (sim_var 1) sim_nil)) (sim_var 2))) (sim_gName 10) (sim_asg (sim_cb sim_max (sim_cons (sim_var 9) (sim_cons (sim_cal b_law_distance (sim_cons (sim_var 7) (sim_cons (sim_sl (sim_var 10) (sim_part (sim_var 4)) (sim_part (sim_op sim_add (sim_var 4) (sim_var 6)))) sim_nil))) sim_nil))) (sim_gName 9)))
    (sim_seq (sim_app (sim_tup (sim_cons (sim_var 4) (sim_cons (sim_var 7) (sim_cons (sim_op sim_add (sim_var 9) (sim_cal b_law_next (sim_cons (sim_var 0) (sim_cons (sim_int _) sim_nil)))) sim_nil)))))
    (sim_seq (sim_asg (sim_op sim_add (sim_op sim_add (sim_var 4) (sim_var 6)) (sim_op sim_ix (sim_lst (sim_cons (sim_int _) (sim_cons (sim_int _) (sim_cons (sim_int _) (sim_cons (sim_int _) sim_nil))))) (sim_cal b_law_next (sim_cons (sim_var 0) (sim_cons (sim_int _) sim_nil))))) (sim_gName 4))
    (sim_ifS (sim_test (sim_op sim_gt (sim_var 4) (sim_cb sim_len (sim_cons (sim_var 1) sim_nil)))) (sim_asg (sim_cb sim_len (sim_cons (sim_var 1) sim_nil)) (sim_gName 4)) sim_next)))))))))
    (sim_frz (sim_ret (sim_tup (sim_cons (sim_str _) (sim_cons (sim_var 3) sim_nil))))))))

theorem q_law_true_parts : ∀ ds Q E, ps_law_true_parts ds Q E → ds.length = 3 ∧ P_law_true_parts { nx := fun _ => Q .non, rt := Q } (startP 11 ds) := by
  rintro _ Q E ⟨v, vs, rfl, hl, hl2, ok, q⟩
  refine ⟨rfl, ?_⟩
  show P_law_true_parts _ [some (.d .st), some (.d (.lst (iD v))), some (.d (.lst (vs.map vL))), none, none, none, none, none, none, none, none]
  unfold P_law_true_parts
  walk_at "pv"
  refine p_rng1 (by decide) ?_
  refine p_loopR (fun i ρ => ∃ (ps : List PartF) (e : Int) (x5 x6 x7 x8 x9 x10 : Option Pv), ρ = [some (.d .st), some (.d (.lst (iD v))), some (.d (.lst (vs.map vL))), some (.own (ps.map rowP)), some (.d (.int e)), x5, x6, x7, x8, x9, x10] ∧ ps.length ≤ i ∧ 0 ≤ e ∧ e ≤ v.length ∧ (∀ p ∈ ps, V9 p.2.1 ∧ 0 ≤ p.2.2 ∧ N24 p.2.2 ∧ N24 p.1) ∧ ∀ p ∈ ps, ∀ u ∈ v :: vs, inP u.length p = true ∧ holdP u p = true) ?_ ?_ ?_
  · exact ⟨[], 0, _, _, _, _, _, _, rfl, by simp, by omega, by omega, (fun p h => nomatch h), fun p h => nomatch h⟩
  · rintro i ρ' hi ⟨ps, e, x5, x6, x7, x8, x9, x10, rfl, hps, e0, e1, okp, hop⟩
    have hi3 : i < 3 := hi
    unfold P_law_true_parts_b2
    walk_at "pv"
    refine next_c (by decide) (by decide) fun d d0 d1 => ?_
    walk_at "pv"
    rw [List.length_map]
    refine p_cut (fun ρ => ∃ (g : Int), ρ = [some (.d .st), some (.d (.lst (iD v))), some (.d (.lst (vs.map vL))), some (.own (ps.map rowP)), some (.d (.int e)), some (.d (.int (0 + (i : Int)))), some (.d (.int g)), x7, x8, x9, x10] ∧ 0 ≤ g ∧ e + g ≤ v.length) ?_ ?_
    · walk_at "pv"
      refine z_itD (fun _ => ?_) (fun _ => ?_)
      · walk_at "pv"
        rw [List.length_map]
        exact ⟨_, rfl, by omega, by omega⟩
      · walk_at "pv"
        exact ⟨_, rfl, by split <;> omega, by split <;> omega⟩
    rintro ρ' ⟨g, rfl, g0, g1⟩
    walk_at "pv"
    rw [cutD_sl e0 g0 g1]
    walk_at "pv"
    refine p_compS Da.int (fun i => -700 ≤ i ∧ i ≤ 700) (by rw [List.length_map, slZ_len e0 g0 g1]; omega) ?_ fun c cl cb => ?_
    · intro i x k hx hk
      obtain ⟨w, hw, rfl⟩ := mapD_get hx
      have := slZ_bd (e := e) (g := g) (ok v (List.mem_cons_self ..)).2 w (List.mem_of_getElem? hw)
      walk_at "pv"
      refine next_c (by decide) (by decide) fun b b0 b1 => ?_
      walk_at "pv"
      exact hk _ ⟨by omega, by omega⟩
    rw [List.length_map, slZ_len e0 g0 g1] at cl
    have c9 : V9 c := ⟨fun x hx => by have := cb x hx; omega, by omega⟩
    have sl9 : ∀ u ∈ v :: vs, V9 (slZ u e g) ∧ (slZ u e g).length = c.length := fun u hu => by
      obtain ⟨u1, u2⟩ := ok u hu
      have ul := slZ_len (v := u) e0 g0 (by omega)
      exact ⟨⟨(slZ_bd u2).mono (by decide), by omega⟩, by omega⟩
    walk_at "pv"
    refine p_addL (by simp only [List.length_cons, List.length_nil, List.length_map]; omega) ?_
    rw [show [Da.lst (iD v)] ++ vs.map vL = (v :: vs).map vL from rfl]
    walk_at "pv"
    refine p_loop (fun j ρ => ∃ (r : Int) (x10 : Option Pv), ρ = [some (.d .st), some (.d (.lst (iD v))), some (.d (.lst (vs.map vL))), some (.own (ps.map rowP)), some (.d (.int e)), some (.d (.int (0 + (i : Int)))), some (.d (.int g)), some (.d (.lst (iD c))), x8, some (.d (.int r)), x10] ∧ 0 ≤ r ∧ r ≤ 4000000000000000000000 ∧ ∀ u ∈ (v :: vs).take j, distZ c (slZ u e g) ≤ r) ?_ ?_ ?_
    · exact ⟨0, _, rfl, by decide, by decide, fun u h => nomatch h⟩
    · rintro j x ρ' hx ⟨r, x10, rfl, r0, r1, hr⟩
      obtain ⟨u, hu, rfl⟩ := vmapI hx
      have um := List.mem_of_getElem? hu
      obtain ⟨u1, u2⟩ := ok u um
      unfold P_law_true_parts_b1
      walk_at "pv"
      rw [cutD_sl e0 g0 (by omega)]
      walk_at "pv"
      refine ⟨_, _, c, slZ u e g, rfl, .inl rfl, .inl rfl, (sl9 u um).2.symm, c9.ok, (sl9 u um).1.ok, ?_⟩
      have d24 := dist24 c9 (sl9 u um).1
      walk_at "pv"
      refine ⟨_, _, rfl, by split <;> omega, by split <;> omega, fun w hw => ?_⟩
      rw [takeS hu] at hw
      rcases List.mem_append.mp hw with hw | hw
      · have := hr w hw; split <;> omega
      · obtain rfl := List.mem_singleton.mp hw; split <;> omega
    · rintro ρ' ⟨r, x10, rfl, r0, r1, hr⟩
      rw [List.length_map, List.take_length] at hr
      refine p_seq ?_
      refine p_app rfl (by rw [List.length_map]; omega) ?_
      walk_at "pv"
      refine next_c (by decide) (by decide) fun h h0 h1 => ?_
      walk_at "pv"
      refine next_c (by decide) (by decide) fun s s0 s1 => ?_
      refine pickI (l := [0, 0, 0, 1].map Da.int) (lo := 0) (hi := 1) s0 s1 (allI (by decide)) fun t t0 t1 => ?_
      walk_at "pv"
      rw [List.length_map]
      have ew : ps.map rowP ++ [rowP (e, c, r + h)] = (ps ++ [(e, c, r + h)]).map rowP := by rw [List.map_append]; rfl
      have ok2 : ∀ p ∈ ps ++ [(e, c, r + h)], V9 p.2.1 ∧ 0 ≤ p.2.2 ∧ N24 p.2.2 ∧ N24 p.1 := fun p hp => by
        rcases List.mem_append.mp hp with hp | hp
        · exact okp p hp
        · obtain rfl := List.mem_singleton.mp hp
          show V9 c ∧ 0 ≤ r + h ∧ N24 (r + h) ∧ N24 e
          exact ⟨c9, by omega, ⟨by omega, by omega⟩, ⟨by omega, by omega⟩⟩
      have ho2 : ∀ p ∈ ps ++ [(e, c, r + h)], ∀ u ∈ v :: vs, inP u.length p = true ∧ holdP u p = true := fun p hp u hu => by
        rcases List.mem_append.mp hp with hp | hp
        · exact hop p hp u hu
        · obtain rfl := List.mem_singleton.mp hp
          have ul := (ok u hu).1
          refine ⟨?_, ?_⟩
          · unfold inP
            show (decide (0 ≤ e) && decide (e + (c.length : Int) ≤ u.length)) = true
            rw [decide_eq_true e0, decide_eq_true (by omega)]; rfl
          · have := hr u hu
            refine decide_eq_true ?_
            show distZ c ((u.drop e.toNat).take c.length) ≤ r + h
            rw [cl]
            exact Int.le_trans this (by omega)
      refine z_itD (fun _ => ?_) (fun _ => ?_)
      · walk_at "pv"
        rw [List.length_map]
        exact ⟨_, _, _, _, _, _, _, _, congrArg (fun L => [some (Pv.d .st), some (.d (.lst (iD v))), some (.d (.lst (vs.map vL))), some (.own L), some (.d (.int (v.length : Int))), some (.d (.int (0 + (i : Int)))), some (.d (.int g)), some (.d (.lst (iD c))), x8, some (.d (.int r)), x10]) ew, by simp; omega, by omega, by omega, ok2, ho2⟩
      · walk_at "pv"
        exact ⟨_, _, _, _, _, _, _, _, congrArg (fun L => [some (Pv.d .st), some (.d (.lst (iD v))), some (.d (.lst (vs.map vL))), some (.own L), some (.d (.int (e + g + t))), some (.d (.int (0 + (i : Int)))), some (.d (.int g)), some (.d (.lst (iD c))), x8, some (.d (.int r)), x10]) ew, by simp; omega, by omega, by omega, ok2, ho2⟩
  · rintro ρ' ⟨ps, e, x5, x6, x7, x8, x9, x10, rfl, hps, e0, e1, okp, hop⟩
    walk_at "pv"
    refine q ps ⟨by have : ps.length ≤ 3 := hps; omega, okp⟩ fun u hu => ?_
    unfold partsH fitsP
    rw [Bool.and_eq_true]
    exact ⟨List.all_eq_true.mpr fun p hp => (hop p hp u hu).1, List.all_eq_true.mpr fun p hp => (hop p hp u hu).2⟩
theorem w_law_true_parts {K : PySem.W.Frag} {c : CEnv} : Wd (T_law_true_parts K c) N_law_true_parts 3 (sp_law_true_parts K c) := wd_lift S_law_true_parts q_law_true_parts
/-! law_true_fact -/
def ps_law_true_fact : PSp := fun ds Q _ => ∃ (v : List Int) (vs : List (List Int)), ds = [.st, .lst ((v :: vs).map vL)] ∧ v.length ≤ 100 ∧ vs.length ≤ 100 ∧ VsOk v.length (v :: vs) ∧ ∀ f : VF, f.Ok → (∀ u ∈ v :: vs, f.hold u = true) → Q f.row
def sp_law_true_fact (K : PySem.W.Frag) (c : CEnv) : Sp := lift K c ps_law_true_fact
theorem b_law_true_fact {K : PySem.W.Frag} {c : CEnv} : SpSim K c (sp_law_true_fact K c) ps_law_true_fact := spSim_lift
abbrev N_law_true_fact : List Str := ["_law_state", "_law_vectors", "_law_kind", "_law_first", "_law_near", "_law_number", "_law_rival", "_law_vector_here", "_law_low", "_law_k", "_law_high", "_law_squares", "_law_centre"]
-- _law_true_fact(_law_state, _law_vectors): slots 0:_law_state 1:_law_vectors 2:_law_kind 3:_law_first 4:_law_near 5:_law_number 6:_law_rival 7:_law_vector_here 8:_law_low 9:_law_k 10:_law_high 11:_law_squares 12:_law_centre
def T_law_true_fact_b1 (K : PySem.W.Frag) (c : CEnv) : TS :=
    (tIfS (tTest (tOp uGt (tCal (sp_law_distance K c) (tCons (tVar 7) (tCons (tVar 4) tNil))) (tCal (sp_law_distance K c) (tCons (tVar 7) (tCons (tVar 6) tNil))))) (tRet (tTup (tCons (tC (.str "cell")) (tCons (tVar 4) (tCons (tCB (uList K) (tCons (tVar 4) tNil)) tNil))))) tNext)
def T_law_true_fact (K : PySem.W.Frag) (c : CEnv) : TS :=
    (tSeq (tAsg (tCal (sp_law_next K) (tCons (tVar 0) (tCons (tC (.int 5)) tNil))) (gName 2))
    (tSeq (tAsg (tOp (uIx K) (tVar 1) (tC (.int 0))) (gName 3))
    (tSeq (tIfS (tTest (tOp (uEq K) (tVar 2) (tC (.int 0)))) (tRet (tCal (sp_law_true_parts K c) (tCons (tVar 0) (tCons (tVar 3) (tCons (tSl (uSl K) (tVar 1) (tPart (tC (.int 1))) tNoPart) tNil))))) tNext)
    (tSeq (tIfS (tTest (tOp (uEq K) (tVar 2) (tC (.int 1)))) (tSeq (tAsg (tLc (iSq K (tVar 3)) (gName 5) tYes (tOp uSub (tOp (uAdd K) (tVar 5) (tCal (sp_law_next K) (tCons (tVar 0) (tCons (tC (.int 5)) tNil)))) (tC (.int 2))) [5]) (gName 4))
    (tSeq (tAsg (tCal (sp_law_vector K c) (tCons (tVar 0) (tCons (tCB (uLen K) (tCons (tVar 3) tNil)) tNil))) (gName 6))
    (tSeq (tFor (iSq K (tVar 1)) (gName 7) (T_law_true_fact_b1 K c))
    (tRet (tTup (tCons (tC (.str "cell")) (tCons (tVar 4) (tCons (tVar 6) tNil)))))))) tNext)
    (tSeq (tIfS (tTest (tOp (uEq K) (tVar 2) (tC (.int 2)))) (tSeq (tAsg (tLc (iRng1 (tCons (tCB (uLen K) (tCons (tVar 3) tNil)) tNil)) (gName 9) tYes (tOp uSub (tCB (rMin K) (tCons (tLc (iSq K (tVar 1)) (gName 7) tYes (tOp (uIx K) (tVar 7) (tVar 9)) [7]) tNil)) (tCal (sp_law_next K) (tCons (tVar 0) (tCons (tC (.int 2)) tNil)))) [9]) (gName 8))
    (tSeq (tAsg (tLc (iRng1 (tCons (tCB (uLen K) (tCons (tVar 3) tNil)) tNil)) (gName 9) tYes (tOp (uAdd K) (tCB (rMax K) (tCons (tLc (iSq K (tVar 1)) (gName 7) tYes (tOp (uIx K) (tVar 7) (tVar 9)) [7]) tNil)) (tCal (sp_law_next K) (tCons (tVar 0) (tCons (tC (.int 2)) tNil)))) [9]) (gName 10))
    (tRet (tTup (tCons (tC (.str "box")) (tCons (tVar 8) (tCons (tVar 10) tNil))))))) tNext)
    (tSeq (tIfS (tTest (tOp (uEq K) (tVar 2) (tC (.int 3)))) (tSeq (tAsg (tLc (iSq K (tVar 1)) (gName 7) tYes (tCal (sp_law_inner K c) (tCons (tVar 7) (tCons (tVar 7) tNil))) [7]) (gName 11))
    (tRet (tTup (tCons (tC (.str "norms")) (tCons (tCB uMax (tCons (tC (.int 0)) (tCons (tOp uSub (tCB (rMin K) (tCons (tVar 11) tNil)) (tCal (sp_law_next K) (tCons (tVar 0) (tCons (tC (.int 3)) tNil)))) tNil))) (tCons (tOp (uAdd K) (tCB (rMax K) (tCons (tVar 11) tNil)) (tCal (sp_law_next K) (tCons (tVar 0) (tCons (tC (.int 3)) tNil)))) tNil)))))) tNext)
    (tSeq (tAsg (tLc (iSq K (tVar 3)) (gName 5) tYes (tOp (uAdd K) (tVar 5) (tOp (uIx K) (tLst (tCons (tC (.int 0)) (tCons (tC (.int 0)) (tCons (tC (.int 1)) tNil)))) (tCal (sp_law_next K) (tCons (tVar 0) (tCons (tC (.int 3)) tNil))))) [5]) (gName 12))
    (tRet (tTup (tCons (tC (.str "differ")) (tCons (tVar 12) (tCons (tOp (uAdd K) (tCB (rMax K) (tCons (tLc (iSq K (tVar 1)) (gName 7) tYes (tCal (sp_law_differing K c) (tCons (tVar 12) (tCons (tVar 7) tNil))) [7]) tNil)) (tCal (sp_law_next K) (tCons (tVar 0) (tCons (tC (.int 2)) tNil)))) tNil))))))))))))
def P_law_true_fact_b1 : PSt :=
    (pIfS (pTest (pOp pGt (pCal ps_law_distance (pCons (pVar 7) (pCons (pVar 4) pNil))) (pCal ps_law_distance (pCons (pVar 7) (pCons (pVar 6) pNil))))) (pRet (pTup (pCons (pC (.str "cell")) (pCons (pVar 4) (pCons (pCB pList (pCons (pVar 4) pNil)) pNil))))) pNext)
def P_law_true_fact : PSt :=
    (pSeq (pAsg (pCal ps_law_next (pCons (pVar 0) (pCons (pC (.int 5)) pNil))) (pgName 2))
    (pSeq (pAsg (pOp pIx (pVar 1) (pC (.int 0))) (pgName 3))
    (pSeq (pIfS (pTest (pOp pEq (pVar 2) (pC (.int 0)))) (pRet (pCal ps_law_true_parts (pCons (pVar 0) (pCons (pVar 3) (pCons (pSl (pVar 1) (pPart (pC (.int 1))) pNoPart) pNil))))) pNext)
    (pSeq (pIfS (pTest (pOp pEq (pVar 2) (pC (.int 1)))) (pSeq (pAsg (pLc (piSq (pVar 3)) (pgName 5) pYes (pOp pSub (pOp pAdd (pVar 5) (pCal ps_law_next (pCons (pVar 0) (pCons (pC (.int 5)) pNil)))) (pC (.int 2))) [5]) (pgName 4))
    (pSeq (pAsg (pCal ps_law_vector (pCons (pVar 0) (pCons (pCB pLen (pCons (pVar 3) pNil)) pNil))) (pgName 6))
    (pSeq (pFor (piSq (pVar 1)) (pgName 7) P_law_true_fact_b1)
    (pRet (pTup (pCons (pC (.str "cell")) (pCons (pVar 4) (pCons (pVar 6) pNil)))))))) pNext)
    (pSeq (pIfS (pTest (pOp pEq (pVar 2) (pC (.int 2)))) (pSeq (pAsg (pLc (piRng1 (pCons (pCB pLen (pCons (pVar 3) pNil)) pNil)) (pgName 9) pYes (pOp pSub (pCB pMin1 (pCons (pLc (piSq (pVar 1)) (pgName 7) pYes (pOp pIx (pVar 7) (pVar 9)) [7]) pNil)) (pCal ps_law_next (pCons (pVar 0) (pCons (pC (.int 2)) pNil)))) [9]) (pgName 8))
    (pSeq (pAsg (pLc (piRng1 (pCons (pCB pLen (pCons (pVar 3) pNil)) pNil)) (pgName 9) pYes (pOp pAdd (pCB pMax1 (pCons (pLc (piSq (pVar 1)) (pgName 7) pYes (pOp pIx (pVar 7) (pVar 9)) [7]) pNil)) (pCal ps_law_next (pCons (pVar 0) (pCons (pC (.int 2)) pNil)))) [9]) (pgName 10))
    (pRet (pTup (pCons (pC (.str "box")) (pCons (pVar 8) (pCons (pVar 10) pNil))))))) pNext)
    (pSeq (pIfS (pTest (pOp pEq (pVar 2) (pC (.int 3)))) (pSeq (pAsg (pLc (piSq (pVar 1)) (pgName 7) pYes (pCal ps_law_inner (pCons (pVar 7) (pCons (pVar 7) pNil))) [7]) (pgName 11))
    (pRet (pTup (pCons (pC (.str "norms")) (pCons (pCB pMax (pCons (pC (.int 0)) (pCons (pOp pSub (pCB pMin1 (pCons (pVar 11) pNil)) (pCal ps_law_next (pCons (pVar 0) (pCons (pC (.int 3)) pNil)))) pNil))) (pCons (pOp pAdd (pCB pMax1 (pCons (pVar 11) pNil)) (pCal ps_law_next (pCons (pVar 0) (pCons (pC (.int 3)) pNil)))) pNil)))))) pNext)
    (pSeq (pAsg (pLc (piSq (pVar 3)) (pgName 5) pYes (pOp pAdd (pVar 5) (pOp pIx (pLst (pCons (pC (.int 0)) (pCons (pC (.int 0)) (pCons (pC (.int 1)) pNil)))) (pCal ps_law_next (pCons (pVar 0) (pCons (pC (.int 3)) pNil))))) [5]) (pgName 12))
    (pRet (pTup (pCons (pC (.str "differ")) (pCons (pVar 12) (pCons (pOp pAdd (pCB pMax1 (pCons (pLc (piSq (pVar 1)) (pgName 7) pYes (pCal ps_law_differing (pCons (pVar 12) (pCons (pVar 7) pNil))) [7]) pNil)) (pCal ps_law_next (pCons (pVar 0) (pCons (pC (.int 2)) pNil)))) pNil))))))))))))
theorem S_law_true_fact {K : PySem.W.Frag} {c : CEnv} : SimS ⟨K, c, W0, fun _ _ => False⟩ (T_law_true_fact K c) (P_law_true_fact) := by
  unfold T_law_true_fact P_law_true_fact T_law_true_fact_b1 P_law_true_fact_b1
  exact (sim_seq (sim_asg (sim_cal b_law_next (sim_cons (sim_var 0) (sim_cons (sim_int _) sim_nil))) (sim_gName 2))
    (sim_seq (sim_asg (sim_op sim_ix (sim_var 1) (sim_int _)) (sim_gName 3))
    (sim_seq (sim_ifS (sim_test (sim_op sim_eq (sim_var 2) (sim_int _))) (sim_ret (sim_cal b_law_true_parts (sim_cons (sim_var 0) (sim_cons (sim_var 3) (sim_cons (sim_sl (sim_var 1) (sim_part (sim_int _)) sim_noPart) sim_nil))))) sim_next)
    (sim_seq (sim_ifS (sim_test (sim_op sim_eq (sim_var 2) (sim_int _))) (sim_seq (sim_asg (sim_lc (sim_iSq (sim_var 3)) (sim_gName 5) (by decide) sim_yes (sim_op sim_sub (sim_op sim_add (sim_var 5) (sim_cal b_law_next (sim_cons (sim_var 0) (sim_cons (sim_int _) sim_nil)))) (sim_int _))) (sim_gName 4))
    (sim_seq (sim_asg (sim_cal b_law_vector (sim_cons (sim_var 0) (sim_cons (sim_cb sim_len (sim_cons (sim_var 3) sim_nil)) sim_nil))) (sim_gName 6))
    (sim_seq (sim_for (sim_iSq (sim_var 1)) (sim_gName 7) (sim_ifS (sim_test (sim_op sim_gt (sim_cal b_law_distance (sim_cons (sim_var 7) (sim_cons (sim_var 4) sim_nil))) (sim_cal b_law_distance (sim_cons (sim_var 7) (sim_cons (sim_var 6) sim_nil))))) (sim_ret (sim_tup (sim_cons (sim_str _) (sim_cons (sim_var 4) (sim_cons (sim_cb sim_list (sim_cons (sim_var 4) sim_nil)) sim_nil))))) sim_next))
    (sim_ret (sim_tup (sim_cons (sim_str _) (sim_cons (sim_var 4) (sim_cons (sim_var 6) sim_nil)))))))) sim_next)
    (sim_seq (sim_ifS (sim_test (sim_op sim_eq (sim_var 2) (sim_int _))) (sim_seq (sim_asg (sim_lc (sim_iRng1 (sim_cons (sim_cb sim_len (sim_cons (sim_var 3) sim_nil)) sim_nil)) (sim_gName 9) (by decide) sim_yes (sim_op sim_sub (sim_cb sim_min1 (sim_cons (sim_lc (sim_iSq (sim_var 1)) (sim_gName 7) (by decide) sim_yes (sim_op sim_ix (sim_var 7) (sim_var 9))) sim_nil)) (sim_cal b_law_next (sim_cons (sim_var 0) (sim_cons (sim_int _) sim_nil))))) (sim_gName 8))
    (sim_seq (sim_asg (sim_lc (sim_iRng1 (sim_cons (sim_cb sim_len (sim_cons (sim_var 3) sim_nil)) sim_nil)) (sim_gName 9) (by decide) sim_yes (sim_op sim_add (sim_cb sim_max1 (sim_cons (sim_lc (sim_iSq (sim_var 1)) (sim_gName 7) (by decide) sim_yes (sim_op sim_ix (sim_var 7) (sim_var 9))) sim_nil)) (sim_cal b_law_next (sim_cons (sim_var 0) (sim_cons (sim_int _) sim_nil))))) (sim_gName 10))
    (sim_ret (sim_tup (sim_cons (sim_str _) (sim_cons (sim_var 8) (sim_cons (sim_var 10) sim_nil))))))) sim_next)
    (sim_seq (sim_ifS (sim_test (sim_op sim_eq (sim_var 2) (sim_int _))) (sim_seq (sim_asg (sim_lc (sim_iSq (sim_var 1)) (sim_gName 7) (by decide) sim_yes (sim_cal b_law_inner (sim_cons (sim_var 7) (sim_cons (sim_var 7) sim_nil)))) (sim_gName 11))
    (sim_ret (sim_tup (sim_cons (sim_str _) (sim_cons (sim_cb sim_max (sim_cons (sim_int _) (sim_cons (sim_op sim_sub (sim_cb sim_min1 (sim_cons (sim_var 11) sim_nil)) (sim_cal b_law_next (sim_cons (sim_var 0) (sim_cons (sim_int _) sim_nil)))) sim_nil))) (sim_cons (sim_op sim_add (sim_cb sim_max1 (sim_cons (sim_var 11) sim_nil)) (sim_cal b_law_next (sim_cons (sim_var 0) (sim_cons (sim_int _) sim_nil)))) sim_nil)))))) sim_next)
    (sim_seq (sim_asg (sim_lc (sim_iSq (sim_var 3)) (sim_gName 5) (by decide) sim_yes (sim_op sim_add (sim_var 5) (sim_op sim_ix (sim_lst (sim_cons (sim_int _) (sim_cons (sim_int _) (sim_cons (sim_int _) sim_nil)))) (sim_cal b_law_next (sim_cons (sim_var 0) (sim_cons (sim_int _) sim_nil)))))) (sim_gName 12))
    (sim_ret (sim_tup (sim_cons (sim_str _) (sim_cons (sim_var 12) (sim_cons (sim_op sim_add (sim_cb sim_max1 (sim_cons (sim_lc (sim_iSq (sim_var 1)) (sim_gName 7) (by decide) sim_yes (sim_cal b_law_differing (sim_cons (sim_var 12) (sim_cons (sim_var 7) sim_nil)))) sim_nil)) (sim_cal b_law_next (sim_cons (sim_var 0) (sim_cons (sim_int _) sim_nil)))) sim_nil))))))))))))

theorem q_law_true_fact : ∀ ds Q E, ps_law_true_fact ds Q E → ds.length = 2 ∧ P_law_true_fact { nx := fun _ => Q .non, rt := Q } (startP 13 ds) := by
  rintro _ Q E ⟨v, vs, rfl, hl, hl2, ok, q⟩
  refine ⟨rfl, ?_⟩
  show P_law_true_fact _ [some (.d .st), some (.d (.lst ((v :: vs).map vL))), none, none, none, none, none, none, none, none, none, none, none]
  unfold P_law_true_fact
  have v9 : ∀ u ∈ v :: vs, V9 u := fun u hu => by
    obtain ⟨u1, u2⟩ := ok u hu
    exact ⟨u2.mono (by decide), by omega⟩
  have vb := (ok v (List.mem_cons_self ..)).2
  have v0 := v9 v (List.mem_cons_self ..)
  walk_at "pv"
  refine next_c (by decide) (by decide) fun a a0 a1 => ?_
  walk_at "pv"
  refine p_ixL (d := .lst (iD v)) (show atI _ ((0 : Nat) : Int) = _ from atI_n rfl) ?_
  walk_at "pv"
  refine z_itD (fun _ => ?_) (fun _ => ?_)
  · walk_at "pv"
    rw [List.map_cons, cutD_tl]
    walk_at "pv"
    exact ⟨v, vs, rfl, hl, hl2, ok, fun l okl hh => q (.parts l) okl hh⟩
  walk_at "pv"
  refine z_itD (fun _ => ?_) (fun _ => ?_)
  · walk_at "pv"
    refine p_compS Da.int (fun i => -700 ≤ i ∧ i ≤ 700) (by rw [List.length_map]; omega) ?_ fun c cl cb => ?_
    · intro i x k hx hk
      obtain ⟨w, hw, rfl⟩ := mapD_get hx
      have := vb w (List.mem_of_getElem? hw)
      walk_at "pv"
      refine next_c (by decide) (by decide) fun b b0 b1 => ?_
      walk_at "pv"
      exact hk _ ⟨by omega, by omega⟩
    rw [List.length_map] at cl
    have c9 : V9 c := ⟨fun x hx => by have := cb x hx; omega, by omega⟩
    walk_at "pv"
    rw [List.length_map]
    refine ⟨_, rfl, by omega, by omega, fun r rl rb => ?_⟩
    have r9 : V9 r := ⟨rb.mono (by decide), by omega⟩
    walk_at "pv"
    refine p_loop (fun j ρ => (∃ (x7 : Option Pv), ρ = [some (.d .st), some (.d (.lst ((v :: vs).map vL))), some (.d (.int a)), some (.d (.lst (iD v))), some (.d (.lst (iD c))), none, some (.d (.lst (iD r))), x7, none, none, none, none, none]) ∧ ∀ u ∈ (v :: vs).take j, distZ u c ≤ distZ u r) ?_ ?_ ?_
    · exact ⟨⟨_, rfl⟩, fun u h => nomatch h⟩
    · rintro j x ρ' hx ⟨⟨x7, rfl⟩, hr⟩
      obtain ⟨u, hu, rfl⟩ := vmapI hx
      have um := List.mem_of_getElem? hu
      have ul := (ok u um).1
      unfold P_law_true_fact_b1
      walk_at "pv"
      refine ⟨_, _, u, c, rfl, .inl rfl, .inl rfl, by omega, (v9 u um).ok, c9.ok, ?_⟩
      walk_at "pv"
      refine ⟨_, _, u, r, rfl, .inl rfl, .inl rfl, by omega, (v9 u um).ok, r9.ok, ?_⟩
      walk_at "pv"
      refine z_itD (fun cc => ?_) (fun cc => ?_)
      · walk_at "pv"
        refine q (.cell c c) ⟨c9, c9⟩ fun w hw => ?_
        have wl := (ok w hw).1
        show (fit2 c c w.length && decide (distZ w c ≤ distZ w c)) = true
        rw [decide_eq_true (Int.le_refl _)]
        unfold fit2
        rw [decide_eq_true (by omega)]; rfl
      · walk_at "pv"
        refine ⟨⟨_, rfl⟩, fun w hw => ?_⟩
        rw [takeS hu] at hw
        rcases List.mem_append.mp hw with hw | hw
        · exact hr w hw
        · obtain rfl := List.mem_singleton.mp hw; omega
    · rintro ρ' ⟨⟨x7, rfl⟩, hr⟩
      rw [List.length_map, List.take_length] at hr
      walk_at "pv"
      refine q (.cell c r) ⟨c9, r9⟩ fun w hw => ?_
      have wl := (ok w hw).1
      show (fit2 c r w.length && decide (distZ w c ≤ distZ w r)) = true
      rw [decide_eq_true (hr w hw)]
      unfold fit2
      rw [decide_eq_true (by omega), decide_eq_true (by omega)]; rfl
  walk_at "pv"
  have inn : ∀ (i : Nat) (hi : i < v.length) (ρ2 : PEnv) (us : List Nat) (QA : List Da → Prop), (∀ ns : List Int, ns.length = (v :: vs).length → (∀ (j : Nat) (n : Int), ns[j]? = some n → ∃ u, (v :: vs)[j]? = some u ∧ n = u.getD i 0) → QA (ns.map Da.int)) → ∀ (e : PEx) (g : PTg), (∀ (x : Da) (u : List Int) (k : Da → Prop), u ∈ v :: vs → x = .lst (iD u) → k (.int (u.getD i 0)) → g x (wipeP ρ2 us) fun ρ3 => e ρ3 k) → pComp ((v :: vs).map vL) g pYes e us ρ2 QA := by
    intro i hi ρ2 us QA hd e g hs
    refine p_compI Da.int (fun j n => ∃ u, (v :: vs)[j]? = some u ∧ n = u.getD i 0) (by rw [List.length_map, List.length_cons]; omega) ?_ fun ns nl nr => hd ns (by rw [nl, List.length_map]) nr
    intro j x k hx hk
    obtain ⟨u, hu, rfl⟩ := vmapI hx
    exact hs _ u k (List.mem_of_getElem? hu) rfl (hk _ ⟨u, hu, rfl⟩)
  refine z_itD (fun _ => ?_) (fun _ => ?_)
  · walk_at "pv"
    rw [List.length_map]
    refine p_rng1 (by omega) ?_
    rw [Int.toNat_natCast]
    refine p_compI Da.int (fun i m => (∀ u ∈ v :: vs, m ≤ u.getD i 0) ∧ -700 ≤ m ∧ m ≤ 700) (by rw [rngD_len]; omega) ?_ fun lo lol lor => ?_
    · intro i x k hx hk
      obtain ⟨hi, rfl⟩ := rngD_get hx
      walk_at "pv"
      refine inn i hi _ _ _ (fun ns nl nr => ?_) _ _ ?_
      · walk_at "pv"
        refine ⟨ns, rfl, by rw [nl, List.length_cons]; omega, fun m hm hmin => ?_⟩
        walk_at "pv"
        refine next_c (by decide) (by decide) fun b b0 b1 => ?_
        walk_at "pv"
        obtain ⟨j, hj⟩ := List.getElem?_of_mem hm
        obtain ⟨u, hu, eu⟩ := nr j m hj
        have um := List.mem_of_getElem? hu
        have ub := (ok u um).2.at (show i < u.length by rw [(ok u um).1]; exact hi)
        refine hk _ ⟨fun w hw => ?_, by omega, by omega⟩
        obtain ⟨j2, hj2⟩ := List.getElem?_of_mem hw
        have lt : j2 < ns.length := by rw [nl]; exact (List.getElem?_eq_some_iff.mp hj2).1
        obtain ⟨u2, hu2, eu2⟩ := nr j2 _ (List.getElem?_eq_getElem lt)
        rw [hj2] at hu2
        cases hu2
        have := hmin _ (List.getElem_mem lt)
        omega
      · intro x u k um ex kk
        subst ex
        walk_at "pv"
        refine p_ixL (iD_at (show i < u.length by rw [(ok u um).1]; exact hi)) ?_
        exact kk
    rw [rngD_len] at lol
    walk_at "pv"
    rw [List.length_map]
    refine p_rng1 (by omega) ?_
    rw [Int.toNat_natCast]
    refine p_compI Da.int (fun i m => (∀ u ∈ v :: vs, u.getD i 0 ≤ m) ∧ -700 ≤ m ∧ m ≤ 700) (by rw [rngD_len]; omega) ?_ fun hi hil hir => ?_
    · intro i x k hx hk
      obtain ⟨hi, rfl⟩ := rngD_get hx
      walk_at "pv"
      refine inn i hi _ _ _ (fun ns nl nr => ?_) _ _ ?_
      · walk_at "pv"
        refine ⟨ns, rfl, by rw [nl, List.length_cons]; omega, fun m hm hmin => ?_⟩
        walk_at "pv"
        refine next_c (by decide) (by decide) fun b b0 b1 => ?_
        walk_at "pv"
        obtain ⟨j, hj⟩ := List.getElem?_of_mem hm
        obtain ⟨u, hu, eu⟩ := nr j m hj
        have um := List.mem_of_getElem? hu
        have ub := (ok u um).2.at (show i < u.length by rw [(ok u um).1]; exact hi)
        refine hk _ ⟨fun w hw => ?_, by omega, by omega⟩
        obtain ⟨j2, hj2⟩ := List.getElem?_of_mem hw
        have lt : j2 < ns.length := by rw [nl]; exact (List.getElem?_eq_some_iff.mp hj2).1
        obtain ⟨u2, hu2, eu2⟩ := nr j2 _ (List.getElem?_eq_getElem lt)
        rw [hj2] at hu2
        cases hu2
        have := hmin _ (List.getElem_mem lt)
        omega
      · intro x u k um ex kk
        subst ex
        walk_at "pv"
        refine p_ixL (iD_at (show i < u.length by rw [(ok u um).1]; exact hi)) ?_
        exact kk
    rw [rngD_len] at hil
    walk_at "pv"
    have b9 : ∀ {l : List Int} {R : Nat → Int → Prop}, l.length = v.length → (∀ i m, l[i]? = some m → R i m ∧ -700 ≤ m ∧ m ≤ 700) → V9 l := fun hl2 h => ⟨fun x hx => by
      obtain ⟨j, hj⟩ := List.getElem?_of_mem hx
      have := (h j x hj).2; omega, by omega⟩
    refine q (.box lo hi) ⟨b9 lol lor, b9 hil hir⟩ fun u hu => ?_
    have ul := (ok u hu).1
    show (fit2 lo hi u.length && (List.range u.length).all (box2 lo hi u)) = true
    unfold fit2
    rw [decide_eq_true (by omega), decide_eq_true (by omega), Bool.true_and, Bool.true_and]
    refine List.all_eq_true.mpr fun i hi' => ?_
    have lt := List.mem_range.mp hi'
    have a1 := (lor i _ (getD_lt 0 (show i < lo.length by omega))).1 u hu
    have a2 := (hir i _ (getD_lt 0 (show i < hi.length by omega))).1 u hu
    unfold box2
    rw [decide_eq_true a1, decide_eq_true a2]; rfl
  walk_at "pv"
  refine z_itD (fun _ => ?_) (fun _ => ?_)
  · walk_at "pv"
    refine p_compI Da.int (fun j n => ∃ u, (v :: vs)[j]? = some u ∧ n = innerZ u u) (by rw [List.length_map, List.length_cons]; omega) ?_ fun ns nl nr => ?_
    · intro j x k hx hk
      obtain ⟨u, hu, rfl⟩ := vmapI hx
      walk_at "pv"
      have o := v9 u (List.mem_of_getElem? hu)
      exact ⟨_, _, u, u, rfl, .inl rfl, .inl rfl, rfl, o.ok, o.ok, hk _ ⟨u, hu, rfl⟩⟩
    rw [List.length_map] at nl
    have all : ∀ u ∈ v :: vs, innerZ u u ∈ ns := fun u hu => by
      obtain ⟨j2, hj2⟩ := List.getElem?_of_mem hu
      have lt : j2 < ns.length := by rw [nl]; exact (List.getElem?_eq_some_iff.mp hj2).1
      obtain ⟨u2, hu2, eu2⟩ := nr j2 _ (List.getElem?_eq_getElem lt)
      rw [hj2] at hu2
      cases hu2
      rw [← eu2]
      exact List.getElem_mem lt
    have bd : ∀ n ∈ ns, 0 ≤ n ∧ n ≤ 4000000000000000000000 := fun n hn => by
      obtain ⟨j, hj⟩ := List.getElem?_of_mem hn
      obtain ⟨u, hu, rfl⟩ := nr j n hj
      exact inner24 (v9 u (List.mem_of_getElem? hu))
    walk_at "pv"
    refine ⟨ns, rfl, by rw [nl, List.length_cons]; omega, fun m hm hmin => ?_⟩
    walk_at "pv"
    refine next_c (by decide) (by decide) fun b b0 b1 => ?_
    walk_at "pv"
    refine ⟨ns, rfl, by rw [nl, List.length_cons]; omega, fun m2 hm2 hmax => ?_⟩
    walk_at "pv"
    refine next_c (by decide) (by decide) fun c c0 c1 => ?_
    walk_at "pv"
    have b1 := bd m hm
    have b2 := bd m2 hm2
    refine q (.norms _ (m2 + c)) ⟨⟨?_, ?_⟩, ⟨by omega, by omega⟩⟩ fun u hu => ?_
    · split <;> omega
    · split <;> omega
    · have := hmin _ (all u hu)
      have := hmax _ (all u hu)
      have := inner_sq_nn u
      show (decide (_ ≤ innerZ u u) && decide (innerZ u u ≤ m2 + c)) = true
      rw [decide_eq_true (show innerZ u u ≤ m2 + c by omega), Bool.and_true]
      exact decide_eq_true (by split <;> omega)
  · walk_at "pv"
    refine p_compS Da.int (fun i => -700 ≤ i ∧ i ≤ 700) (by rw [List.length_map]; omega) ?_ fun c cl cb => ?_
    · intro i x k hx hk
      obtain ⟨w, hw, rfl⟩ := mapD_get hx
      have := vb w (List.mem_of_getElem? hw)
      walk_at "pv"
      refine next_c (by decide) (by decide) fun b b0 b1 => ?_
      refine pickI (l := [0, 0, 1].map Da.int) (lo := 0) (hi := 1) b0 b1 (allI (by decide)) fun t t0 t1 => ?_
      walk_at "pv"
      exact hk _ ⟨by omega, by omega⟩
    rw [List.length_map] at cl
    have c9 : V9 c := ⟨fun x hx => by have := cb x hx; omega, by omega⟩
    walk_at "pv"
    refine p_compI Da.int (fun j n => ∃ u, (v :: vs)[j]? = some u ∧ n = diffZ c u) (by rw [List.length_map, List.length_cons]; omega) ?_ fun ns nl nr => ?_
    · intro j x k hx hk
      obtain ⟨u, hu, rfl⟩ := vmapI hx
      walk_at "pv"
      have um := List.mem_of_getElem? hu
      exact ⟨_, _, c, u, rfl, .inl rfl, .inl rfl, by rw [(ok u um).1]; exact cl, c9, v9 u um, hk _ ⟨u, hu, rfl⟩⟩
    rw [List.length_map] at nl
    walk_at "pv"
    refine ⟨ns, rfl, by rw [nl, List.length_cons]; omega, fun m hm hmax => ?_⟩
    walk_at "pv"
    refine next_c (by decide) (by decide) fun b b0 b1 => ?_
    walk_at "pv"
    have mb : 0 ≤ m ∧ m ≤ 1000 := by
      obtain ⟨j, hj⟩ := List.getElem?_of_mem hm
      obtain ⟨u, hu, rfl⟩ := nr j m hj
      have := diff_le c u
      exact ⟨diff_nn c u, by omega⟩
    refine q (.differ c (m + b)) ⟨c9, ⟨by omega, by omega⟩⟩ fun u hu => ?_
    have ul := (ok u hu).1
    obtain ⟨j2, hj2⟩ := List.getElem?_of_mem hu
    have lt : j2 < ns.length := by rw [nl]; exact (List.getElem?_eq_some_iff.mp hj2).1
    obtain ⟨u2, hu2, eu2⟩ := nr j2 _ (List.getElem?_eq_getElem lt)
    rw [hj2] at hu2
    cases hu2
    have := hmax _ (List.getElem_mem lt)
    show (decide (c.length = u.length) && decide (diffZ c u ≤ m + b)) = true
    rw [decide_eq_true (by omega), decide_eq_true (by omega)]; rfl
theorem w_law_true_fact {K : PySem.W.Frag} {c : CEnv} : Wd (T_law_true_fact K c) N_law_true_fact 2 (sp_law_true_fact K c) := wd_lift S_law_true_fact q_law_true_fact
/-! law_bits -/
def ps_law_bits : PSp := fun ds Q _ => ∃ (v : List Int), ds = [.lst (iD v)] ∧ v.length ≤ 1000 ∧ ∀ b : List Int, b.length = v.length → (∀ x ∈ b, x = 0 ∨ x = 1) → Q (.lst (iD b))
def sp_law_bits (K : PySem.W.Frag) (c : CEnv) : Sp := lift K c ps_law_bits
theorem b_law_bits {K : PySem.W.Frag} {c : CEnv} : SpSim K c (sp_law_bits K c) ps_law_bits := spSim_lift
abbrev N_law_bits : List Str := ["_law_vector_here", "_law_number"]
-- _law_bits(_law_vector_here): slots 0:_law_vector_here 1:_law_number
def T_law_bits (K : PySem.W.Frag) : TS :=
    (tRet (tLc (iSq K (tVar 0)) (gName 1) tYes (tOp uMod (tCB uInt (tCons (tVar 1) tNil)) (tC (.int 2))) [1]))
def P_law_bits : PSt :=
    (pRet (pLc (piSq (pVar 0)) (pgName 1) pYes (pOp pMod (pCB pInt (pCons (pVar 1) pNil)) (pC (.int 2))) [1]))
theorem S_law_bits {K : PySem.W.Frag} {c : CEnv} : SimS ⟨K, c, W0, fun _ _ => False⟩ (T_law_bits K) (P_law_bits) := by
  unfold T_law_bits P_law_bits
  exact (sim_ret (sim_lc (sim_iSq (sim_var 0)) (sim_gName 1) (by decide) sim_yes (sim_op sim_mod (sim_cb sim_intB (sim_cons (sim_var 1) sim_nil)) (sim_int _))))

theorem q_law_bits : ∀ ds Q E, ps_law_bits ds Q E → ds.length = 1 ∧ P_law_bits { nx := fun _ => Q .non, rt := Q } (startP 2 ds) := by
  rintro _ Q E ⟨v, rfl, hl, q⟩
  refine ⟨rfl, ?_⟩
  show P_law_bits _ [some (.d (.lst (iD v))), none]
  unfold P_law_bits
  walk_at "pv"
  refine p_compS Da.int (fun i => i = 0 ∨ i = 1) (by rw [List.length_map]; omega) ?_ fun b bl bb => ?_
  · intro i x k hx hk
    obtain ⟨w, hw, rfl⟩ := mapD_get hx
    walk_at "pv"
    exact hk _ (by omega)
  rw [List.length_map] at bl
  walk_at "pv"
  exact q b bl bb
theorem w_law_bits {K : PySem.W.Frag} {c : CEnv} : Wd (T_law_bits K) N_law_bits 1 (sp_law_bits K c) := wd_lift S_law_bits q_law_bits
abbrev N_law : List Str := ["_law_script", "_law_state", "_law_turn", "_law_size", "_law_bits_here", "_law_vectors", "_law_k", "_law_q", "_law_number", "_law_vector_here", "_law_made_here", "_law_product"]
-- law(_law_script): slots 0:_law_script 1:_law_state 2:_law_turn 3:_law_size 4:_law_bits_here 5:_law_vectors 6:_law_k 7:_law_q 8:_law_number 9:_law_vector_here 10:_law_made_here 11:_law_product
def T_law_b1 (K : PySem.W.Frag) (c : CEnv) : TS :=
    (tSeq (tIfS (tNot (tTru K (tAny (tMt c "Parts" "holds" (sp_Parts_holds K c) (tVar 10) (tCons (tMkK K c "Record" ["name", "vector", "fields", "words"] 2 0 [.e, .e] [(false, 0), (false, 1)] (sp_Record_init K c) W0 (tCons (tC (.str "r")) (tCons (tCB (uList K) (tCons (tVar 9) tNil)) tNil)) tNil) tNil)) (tAny (tMt c "Cell" "holds" (sp_Cell_holds K c) (tVar 10) (tCons (tMkK K c "Record" ["name", "vector", "fields", "words"] 2 0 [.e, .e] [(false, 0), (false, 1)] (sp_Record_init K c) W0 (tCons (tC (.str "r")) (tCons (tCB (uList K) (tCons (tVar 9) tNil)) tNil)) tNil) tNil)) (tAny (tMt c "Box" "holds" (sp_Box_holds K c) (tVar 10) (tCons (tMkK K c "Record" ["name", "vector", "fields", "words"] 2 0 [.e, .e] [(false, 0), (false, 1)] (sp_Record_init K c) W0 (tCons (tC (.str "r")) (tCons (tCB (uList K) (tCons (tVar 9) tNil)) tNil)) tNil) tNil)) (tAny (tMt c "Norms" "holds" (sp_Norms_holds K c) (tVar 10) (tCons (tMkK K c "Record" ["name", "vector", "fields", "words"] 2 0 [.e, .e] [(false, 0), (false, 1)] (sp_Record_init K c) W0 (tCons (tC (.str "r")) (tCons (tCB (uList K) (tCons (tVar 9) tNil)) tNil)) tNil) tNil)) (tMt c "Differ" "holds" (sp_Differ_holds K c) (tVar 10) (tCons (tMkK K c "Record" ["name", "vector", "fields", "words"] 2 0 [.e, .e] [(false, 0), (false, 1)] (sp_Record_init K c) W0 (tCons (tC (.str "r")) (tCons (tCB (uList K) (tCons (tVar 9) tNil)) tNil)) tNil) tNil)))))))) (tRet (tC (.bl false))) tNext)
    (tSeq (tIfS (tTest (tOp uGt (tAny (tMt c "Parts" "least_distance" (sp_Parts_least_distance K c) (tVar 10) (tCons (tCB (uList K) (tCons (tVar 7) tNil)) tNil)) (tAny (tMt c "Cell" "least_distance" (sp_Cell_least_distance K c) (tVar 10) (tCons (tCB (uList K) (tCons (tVar 7) tNil)) tNil)) (tAny (tMt c "Box" "least_distance" (sp_Box_least_distance K c) (tVar 10) (tCons (tCB (uList K) (tCons (tVar 7) tNil)) tNil)) (tAny (tMt c "Norms" "least_distance" (sp_Norms_least_distance K c) (tVar 10) (tCons (tCB (uList K) (tCons (tVar 7) tNil)) tNil)) (tMt c "Differ" "least_distance" (sp_Fact_least_distance K c) (tVar 10) (tCons (tCB (uList K) (tCons (tVar 7) tNil)) tNil)))))) (tCal (sp_law_distance K c) (tCons (tVar 7) (tCons (tVar 9) tNil))))) (tRet (tC (.bl false))) tNext)
    (tSeq (tIfS (tAnd (tTru K (tVar 4)) (tTest (tOp uGt (tAny (tMt c "Parts" "least_differing" (sp_Fact_least_differing K c) (tVar 10) (tCons (tCB (uList K) (tCons (tVar 7) tNil)) tNil)) (tAny (tMt c "Cell" "least_differing" (sp_Fact_least_differing K c) (tVar 10) (tCons (tCB (uList K) (tCons (tVar 7) tNil)) tNil)) (tAny (tMt c "Box" "least_differing" (sp_Fact_least_differing K c) (tVar 10) (tCons (tCB (uList K) (tCons (tVar 7) tNil)) tNil)) (tAny (tMt c "Norms" "least_differing" (sp_Fact_least_differing K c) (tVar 10) (tCons (tCB (uList K) (tCons (tVar 7) tNil)) tNil)) (tMt c "Differ" "least_differing" (sp_Differ_least_differing K c) (tVar 10) (tCons (tCB (uList K) (tCons (tVar 7) tNil)) tNil)))))) (tCal (sp_law_differing K c) (tCons (tVar 7) (tCons (tVar 9) tNil)))))) (tRet (tC (.bl false))) tNext)
    (tSeq (tAsg (tAny (tMt c "Parts" "most_product" (sp_Parts_most_product K c) (tVar 10) (tCons (tCB (uList K) (tCons (tVar 7) tNil)) tNil)) (tAny (tMt c "Cell" "most_product" (sp_Fact_most_product K c) (tVar 10) (tCons (tCB (uList K) (tCons (tVar 7) tNil)) tNil)) (tAny (tMt c "Box" "most_product" (sp_Box_most_product K c) (tVar 10) (tCons (tCB (uList K) (tCons (tVar 7) tNil)) tNil)) (tAny (tMt c "Norms" "most_product" (sp_Norms_most_product K c) (tVar 10) (tCons (tCB (uList K) (tCons (tVar 7) tNil)) tNil)) (tMt c "Differ" "most_product" (sp_Fact_most_product K c) (tVar 10) (tCons (tCB (uList K) (tCons (tVar 7) tNil)) tNil)))))) (gName 11))
    (tIfS (tAnd (tTest (tOp uIsNot (tVar 11) (tC .non))) (tTest (tOp (uLt K) (tVar 11) (tCal (sp_law_inner K c) (tCons (tVar 7) (tCons (tVar 9) tNil)))))) (tRet (tC (.bl false))) tNext)))))
def T_law_b2 (K : PySem.W.Frag) (c : CEnv) : TS :=
    (tSeq (tAsg (tOp (uAdd K) (tC (.int 1)) (tCal (sp_law_next K) (tCons (tVar 1) (tCons (tC (.int 4)) tNil)))) (gName 3))
    (tSeq (tAsg (tOp (uEq K) (tCal (sp_law_next K) (tCons (tVar 1) (tCons (tC (.int 3)) tNil))) (tC (.int 0))) (gName 4))
    (tSeq (tAsg (tLc (iRng1 (tCons (tOp (uAdd K) (tC (.int 1)) (tCal (sp_law_next K) (tCons (tVar 1) (tCons (tC (.int 2)) tNil)))) tNil)) (gName 6) tYes (tCal (sp_law_vector K c) (tCons (tVar 1) (tCons (tVar 3) tNil))) [6]) (gName 5))
    (tSeq (tAsg (tLc (iSq K (tOp (uIx K) (tVar 5) (tC (.int 0)))) (gName 8) tYes (tOp uSub (tOp (uAdd K) (tVar 8) (tCal (sp_law_next K) (tCons (tVar 1) (tCons (tC (.int 9)) tNil)))) (tC (.int 4))) [8]) (gName 7))
    (tCut (tIfS (tTest (tOp (uEq K) (tCal (sp_law_next K) (tCons (tVar 1) (tCons (tC (.int 2)) tNil))) (tC (.int 0)))) (tAsg (tCal (sp_law_vector K c) (tCons (tVar 1) (tCons (tVar 3) tNil))) (gName 7)) tNext)
    (tCut (tIfS (tTru K (tVar 4)) (tSeq (tAsg (tLc (iSq K (tVar 5)) (gName 9) tYes (tCal (sp_law_bits K c) (tCons (tVar 9) tNil)) [9]) (gName 5))
    (tAsg (tCal (sp_law_bits K c) (tCons (tVar 7) tNil)) (gName 7))) tNext)
    (tSeq (tAsg (tCal (sp_law_made K c) (tCons (tCal (sp_law_true_fact K c) (tCons (tVar 1) (tCons (tVar 5) tNil))) tNil)) (gName 10))
    (tFor (iSq K (tVar 5)) (gName 9) (T_law_b1 K c)))))))))
def T_law (K : PySem.W.Frag) (c : CEnv) : TS :=
    (tSeq (tAsg (tLst (tCons (tCB (uList K) (tCons (tVar 0) tNil)) (tCons (tC (.int 0)) (tCons (tC (.int 0)) tNil)))) (gName 1))
    (tSeq (tFor (iRng1 (tCons (tC (.int 5)) tNil)) (gName 2) (T_law_b2 K c))
    (tRet (tC (.bl true)))))
def U_law (K : PySem.W.Frag) (c : CEnv) : TS :=
    (tSeq (tFor (iRng1 (tCons (tC (.int 5)) tNil)) (gName 2) (T_law_b2 K c)) (tRet (tC (.bl true))))
def P_law_b1 : PSt :=
    (pSeq (pIfS (pNot (pTru (pAny (pMt "Parts" "holds" ps_Parts_holds (pVar 10) (pCons (pMkK (fun _ _ => False) "Record" ["name", "vector", "fields", "words"] 2 0 [.e, .e] [(false, 0), (false, 1)] ps_Record_init (pCons (pC (.str "r")) (pCons (pCB pList (pCons (pVar 9) pNil)) pNil)) pNil) pNil)) (pAny (pMt "Cell" "holds" ps_Cell_holds (pVar 10) (pCons (pMkK (fun _ _ => False) "Record" ["name", "vector", "fields", "words"] 2 0 [.e, .e] [(false, 0), (false, 1)] ps_Record_init (pCons (pC (.str "r")) (pCons (pCB pList (pCons (pVar 9) pNil)) pNil)) pNil) pNil)) (pAny (pMt "Box" "holds" ps_Box_holds (pVar 10) (pCons (pMkK (fun _ _ => False) "Record" ["name", "vector", "fields", "words"] 2 0 [.e, .e] [(false, 0), (false, 1)] ps_Record_init (pCons (pC (.str "r")) (pCons (pCB pList (pCons (pVar 9) pNil)) pNil)) pNil) pNil)) (pAny (pMt "Norms" "holds" ps_Norms_holds (pVar 10) (pCons (pMkK (fun _ _ => False) "Record" ["name", "vector", "fields", "words"] 2 0 [.e, .e] [(false, 0), (false, 1)] ps_Record_init (pCons (pC (.str "r")) (pCons (pCB pList (pCons (pVar 9) pNil)) pNil)) pNil) pNil)) (pMt "Differ" "holds" ps_Differ_holds (pVar 10) (pCons (pMkK (fun _ _ => False) "Record" ["name", "vector", "fields", "words"] 2 0 [.e, .e] [(false, 0), (false, 1)] ps_Record_init (pCons (pC (.str "r")) (pCons (pCB pList (pCons (pVar 9) pNil)) pNil)) pNil) pNil)))))))) (pRet (pC (.bl false))) pNext)
    (pSeq (pIfS (pTest (pOp pGt (pAny (pMt "Parts" "least_distance" ps_Parts_least_distance (pVar 10) (pCons (pCB pList (pCons (pVar 7) pNil)) pNil)) (pAny (pMt "Cell" "least_distance" ps_Cell_least_distance (pVar 10) (pCons (pCB pList (pCons (pVar 7) pNil)) pNil)) (pAny (pMt "Box" "least_distance" ps_Box_least_distance (pVar 10) (pCons (pCB pList (pCons (pVar 7) pNil)) pNil)) (pAny (pMt "Norms" "least_distance" ps_Norms_least_distance (pVar 10) (pCons (pCB pList (pCons (pVar 7) pNil)) pNil)) (pMt "Differ" "least_distance" ps_Fact_least_distance (pVar 10) (pCons (pCB pList (pCons (pVar 7) pNil)) pNil)))))) (pCal ps_law_distance (pCons (pVar 7) (pCons (pVar 9) pNil))))) (pRet (pC (.bl false))) pNext)
    (pSeq (pIfS (pAnd (pTru (pVar 4)) (pTest (pOp pGt (pAny (pMt "Parts" "least_differing" ps_Fact_least_differing (pVar 10) (pCons (pCB pList (pCons (pVar 7) pNil)) pNil)) (pAny (pMt "Cell" "least_differing" ps_Fact_least_differing (pVar 10) (pCons (pCB pList (pCons (pVar 7) pNil)) pNil)) (pAny (pMt "Box" "least_differing" ps_Fact_least_differing (pVar 10) (pCons (pCB pList (pCons (pVar 7) pNil)) pNil)) (pAny (pMt "Norms" "least_differing" ps_Fact_least_differing (pVar 10) (pCons (pCB pList (pCons (pVar 7) pNil)) pNil)) (pMt "Differ" "least_differing" ps_Differ_least_differing (pVar 10) (pCons (pCB pList (pCons (pVar 7) pNil)) pNil)))))) (pCal ps_law_differing (pCons (pVar 7) (pCons (pVar 9) pNil)))))) (pRet (pC (.bl false))) pNext)
    (pSeq (pAsg (pAny (pMt "Parts" "most_product" ps_Parts_most_product (pVar 10) (pCons (pCB pList (pCons (pVar 7) pNil)) pNil)) (pAny (pMt "Cell" "most_product" ps_Fact_most_product (pVar 10) (pCons (pCB pList (pCons (pVar 7) pNil)) pNil)) (pAny (pMt "Box" "most_product" ps_Box_most_product (pVar 10) (pCons (pCB pList (pCons (pVar 7) pNil)) pNil)) (pAny (pMt "Norms" "most_product" ps_Norms_most_product (pVar 10) (pCons (pCB pList (pCons (pVar 7) pNil)) pNil)) (pMt "Differ" "most_product" ps_Fact_most_product (pVar 10) (pCons (pCB pList (pCons (pVar 7) pNil)) pNil)))))) (pgName 11))
    (pIfS (pAnd (pTest (pOp pIsNot (pVar 11) (pC .non))) (pTest (pOp pLt (pVar 11) (pCal ps_law_inner (pCons (pVar 7) (pCons (pVar 9) pNil)))))) (pRet (pC (.bl false))) pNext)))))
def P_law_b2 : PSt :=
    (pSeq (pAsg (pOp pAdd (pC (.int 1)) (pCal ps_law_next (pCons (pVar 1) (pCons (pC (.int 4)) pNil)))) (pgName 3))
    (pSeq (pAsg (pOp pEq (pCal ps_law_next (pCons (pVar 1) (pCons (pC (.int 3)) pNil))) (pC (.int 0))) (pgName 4))
    (pSeq (pAsg (pLc (piRng1 (pCons (pOp pAdd (pC (.int 1)) (pCal ps_law_next (pCons (pVar 1) (pCons (pC (.int 2)) pNil)))) pNil)) (pgName 6) pYes (pCal ps_law_vector (pCons (pVar 1) (pCons (pVar 3) pNil))) [6]) (pgName 5))
    (pSeq (pAsg (pLc (piSq (pOp pIx (pVar 5) (pC (.int 0)))) (pgName 8) pYes (pOp pSub (pOp pAdd (pVar 8) (pCal ps_law_next (pCons (pVar 1) (pCons (pC (.int 9)) pNil)))) (pC (.int 4))) [8]) (pgName 7))
    (pCut (pIfS (pTest (pOp pEq (pCal ps_law_next (pCons (pVar 1) (pCons (pC (.int 2)) pNil))) (pC (.int 0)))) (pAsg (pCal ps_law_vector (pCons (pVar 1) (pCons (pVar 3) pNil))) (pgName 7)) pNext)
    (pCut (pIfS (pTru (pVar 4)) (pSeq (pAsg (pLc (piSq (pVar 5)) (pgName 9) pYes (pCal ps_law_bits (pCons (pVar 9) pNil)) [9]) (pgName 5))
    (pAsg (pCal ps_law_bits (pCons (pVar 7) pNil)) (pgName 7))) pNext)
    (pSeq (pAsg (pCal ps_law_made (pCons (pCal ps_law_true_fact (pCons (pVar 1) (pCons (pVar 5) pNil))) pNil)) (pgName 10))
    (pFor (piSq (pVar 5)) (pgName 9) P_law_b1))))))))
def P_law : PSt :=
    (pSeq (pFor (piRng1 (pCons (pC (.int 5)) pNil)) (pgName 2) P_law_b2)
    (pRet (pC (.bl true))))
theorem S_law {K : PySem.W.Frag} {c : CEnv} : SimS ⟨K, c, W0, fun _ _ => False⟩ (U_law K c) (P_law) := by
  unfold U_law P_law T_law_b2 T_law_b1 P_law_b2 P_law_b1
  exact (sim_seq (sim_for (sim_iRng1 (sim_cons (sim_int _) sim_nil)) (sim_gName 2) (sim_seq (sim_asg (sim_op sim_add (sim_int _) (sim_cal b_law_next (sim_cons (sim_var 1) (sim_cons (sim_int _) sim_nil)))) (sim_gName 3))
    (sim_seq (sim_asg (sim_op sim_eq (sim_cal b_law_next (sim_cons (sim_var 1) (sim_cons (sim_int _) sim_nil))) (sim_int _)) (sim_gName 4))
    (sim_seq (sim_asg (sim_lc (sim_iRng1 (sim_cons (sim_op sim_add (sim_int _) (sim_cal b_law_next (sim_cons (sim_var 1) (sim_cons (sim_int _) sim_nil)))) sim_nil)) (sim_gName 6) (by decide) sim_yes (sim_cal b_law_vector (sim_cons (sim_var 1) (sim_cons (sim_var 3) sim_nil)))) (sim_gName 5))
    (sim_seq (sim_asg (sim_lc (sim_iSq (sim_op sim_ix (sim_var 5) (sim_int _))) (sim_gName 8) (by decide) sim_yes (sim_op sim_sub (sim_op sim_add (sim_var 8) (sim_cal b_law_next (sim_cons (sim_var 1) (sim_cons (sim_int _) sim_nil)))) (sim_int _))) (sim_gName 7))
    (sim_cut (sim_ifS (sim_test (sim_op sim_eq (sim_cal b_law_next (sim_cons (sim_var 1) (sim_cons (sim_int _) sim_nil))) (sim_int _))) (sim_asg (sim_cal b_law_vector (sim_cons (sim_var 1) (sim_cons (sim_var 3) sim_nil))) (sim_gName 7)) sim_next)
    (sim_cut (sim_ifS (sim_tru (sim_var 4)) (sim_seq (sim_asg (sim_lc (sim_iSq (sim_var 5)) (sim_gName 9) (by decide) sim_yes (sim_cal b_law_bits (sim_cons (sim_var 9) sim_nil))) (sim_gName 5))
    (sim_asg (sim_cal b_law_bits (sim_cons (sim_var 7) sim_nil)) (sim_gName 7))) sim_next)
    (sim_seq (sim_asg (sim_cal b_law_made (sim_cons (sim_cal b_law_true_fact (sim_cons (sim_var 1) (sim_cons (sim_var 5) sim_nil))) sim_nil)) (sim_gName 10))
    (sim_for (sim_iSq (sim_var 5)) (sim_gName 9) (sim_seq (sim_ifS (sim_not (sim_tru (sim_any (sim_mt b_Parts_holds (sim_var 10) (sim_cons (sim_mkK b_Record_init (sim_cons (sim_str _) (sim_cons (sim_cb sim_list (sim_cons (sim_var 9) sim_nil)) sim_nil)) sim_nil) sim_nil)) (sim_any (sim_mt b_Cell_holds (sim_var 10) (sim_cons (sim_mkK b_Record_init (sim_cons (sim_str _) (sim_cons (sim_cb sim_list (sim_cons (sim_var 9) sim_nil)) sim_nil)) sim_nil) sim_nil)) (sim_any (sim_mt b_Box_holds (sim_var 10) (sim_cons (sim_mkK b_Record_init (sim_cons (sim_str _) (sim_cons (sim_cb sim_list (sim_cons (sim_var 9) sim_nil)) sim_nil)) sim_nil) sim_nil)) (sim_any (sim_mt b_Norms_holds (sim_var 10) (sim_cons (sim_mkK b_Record_init (sim_cons (sim_str _) (sim_cons (sim_cb sim_list (sim_cons (sim_var 9) sim_nil)) sim_nil)) sim_nil) sim_nil)) (sim_mt b_Differ_holds (sim_var 10) (sim_cons (sim_mkK b_Record_init (sim_cons (sim_str _) (sim_cons (sim_cb sim_list (sim_cons (sim_var 9) sim_nil)) sim_nil)) sim_nil) sim_nil)))))))) (sim_ret (sim_bl _)) sim_next)
    (sim_seq (sim_ifS (sim_test (sim_op sim_gt (sim_any (sim_mt b_Parts_least_distance (sim_var 10) (sim_cons (sim_cb sim_list (sim_cons (sim_var 7) sim_nil)) sim_nil)) (sim_any (sim_mt b_Cell_least_distance (sim_var 10) (sim_cons (sim_cb sim_list (sim_cons (sim_var 7) sim_nil)) sim_nil)) (sim_any (sim_mt b_Box_least_distance (sim_var 10) (sim_cons (sim_cb sim_list (sim_cons (sim_var 7) sim_nil)) sim_nil)) (sim_any (sim_mt b_Norms_least_distance (sim_var 10) (sim_cons (sim_cb sim_list (sim_cons (sim_var 7) sim_nil)) sim_nil)) (sim_mt b_Fact_least_distance (sim_var 10) (sim_cons (sim_cb sim_list (sim_cons (sim_var 7) sim_nil)) sim_nil)))))) (sim_cal b_law_distance (sim_cons (sim_var 7) (sim_cons (sim_var 9) sim_nil))))) (sim_ret (sim_bl _)) sim_next)
    (sim_seq (sim_ifS (sim_and (sim_tru (sim_var 4)) (sim_test (sim_op sim_gt (sim_any (sim_mt b_Fact_least_differing (sim_var 10) (sim_cons (sim_cb sim_list (sim_cons (sim_var 7) sim_nil)) sim_nil)) (sim_any (sim_mt b_Fact_least_differing (sim_var 10) (sim_cons (sim_cb sim_list (sim_cons (sim_var 7) sim_nil)) sim_nil)) (sim_any (sim_mt b_Fact_least_differing (sim_var 10) (sim_cons (sim_cb sim_list (sim_cons (sim_var 7) sim_nil)) sim_nil)) (sim_any (sim_mt b_Fact_least_differing (sim_var 10) (sim_cons (sim_cb sim_list (sim_cons (sim_var 7) sim_nil)) sim_nil)) (sim_mt b_Differ_least_differing (sim_var 10) (sim_cons (sim_cb sim_list (sim_cons (sim_var 7) sim_nil)) sim_nil)))))) (sim_cal b_law_differing (sim_cons (sim_var 7) (sim_cons (sim_var 9) sim_nil)))))) (sim_ret (sim_bl _)) sim_next)
    (sim_seq (sim_asg (sim_any (sim_mt b_Parts_most_product (sim_var 10) (sim_cons (sim_cb sim_list (sim_cons (sim_var 7) sim_nil)) sim_nil)) (sim_any (sim_mt b_Fact_most_product (sim_var 10) (sim_cons (sim_cb sim_list (sim_cons (sim_var 7) sim_nil)) sim_nil)) (sim_any (sim_mt b_Box_most_product (sim_var 10) (sim_cons (sim_cb sim_list (sim_cons (sim_var 7) sim_nil)) sim_nil)) (sim_any (sim_mt b_Norms_most_product (sim_var 10) (sim_cons (sim_cb sim_list (sim_cons (sim_var 7) sim_nil)) sim_nil)) (sim_mt b_Fact_most_product (sim_var 10) (sim_cons (sim_cb sim_list (sim_cons (sim_var 7) sim_nil)) sim_nil)))))) (sim_gName 11))
    (sim_ifS (sim_and (sim_test (sim_op sim_isNot (sim_var 11) sim_non)) (sim_test (sim_op sim_lt (sim_var 11) (sim_cal b_law_inner (sim_cons (sim_var 7) (sim_cons (sim_var 9) sim_nil)))))) (sim_ret (sim_bl _)) sim_next))))))))))))))
    (sim_ret (sim_bl _)))

theorem q_law : P_law { nx := fun _ => False, rt := fun d => d = .bl true } (none :: some (.d .st) :: List.replicate 10 none) := by
  show P_law _ [none, some (.d .st), none, none, none, none, none, none, none, none, none, none]
  unfold P_law
  walk_at "pv"
  refine p_rng1 (by decide) ?_
  refine p_loopR (fun i ρ => ∃ x2 x3 x4 x5 x6 x7 x8 x9 x10 x11 : Option Pv, ρ = [none, some (.d .st), x2, x3, x4, x5, x6, x7, x8, x9, x10, x11]) ?_ ?_ ?_
  · exact ⟨_, _, _, _, _, _, _, _, _, _, rfl⟩
  · rintro i ρ' hi ⟨x2, x3, x4, x5, x6, x7, x8, x9, x10, x11, rfl⟩
    unfold P_law_b2
    walk_at "pv"
    refine next_c (by decide) (by decide) fun a a0 a1 => ?_
    walk_at "pv"
    refine next_c (by decide) (by decide) fun b b0 b1 => ?_
    walk_at "pv"
    refine next_c (by decide) (by decide) fun c c0 c1 => ?_
    walk_at "pv"
    refine p_rng1 (by omega) ?_
    generalize hn : 1 + a = n at *
    refine p_compS vL (fun u => u.length = n.toNat ∧ Bd 600 u) (by rw [rngD_len]; omega) ?_ fun vs vl vp => ?_
    · intro i x k hx hk
      obtain ⟨_, rfl⟩ := rngD_get hx
      walk_at "pv"
      exact ⟨n, rfl, by omega, by omega, fun u ul ub => hk u ⟨ul, ub⟩⟩
    rw [rngD_len] at vl
    obtain ⟨v, vs, rfl⟩ : ∃ v t, vs = v :: t := by
      cases vs with
      | nil => simp at vl; omega
      | cons v t => exact ⟨v, t, rfl⟩
    rw [List.length_cons] at vl
    have v1 := vp v (List.mem_cons_self ..)
    walk_at "pv"
    refine p_ixL (d := .lst (iD v)) (show atI _ ((0 : Nat) : Int) = _ from atI_n rfl) ?_
    walk_at "pv"
    refine p_compS Da.int (fun i => -700 ≤ i ∧ i ≤ 700) (by rw [List.length_map]; omega) ?_ fun q1 ql qb => ?_
    · intro i x k hx hk
      obtain ⟨w, hw, rfl⟩ := mapD_get hx
      have := v1.2 w (List.mem_of_getElem? hw)
      walk_at "pv"
      refine next_c (by decide) (by decide) fun d d0 d1 => ?_
      walk_at "pv"
      exact hk _ ⟨by omega, by omega⟩
    rw [List.length_map] at ql
    walk_at "pv"
    refine p_cut (fun ρ => ∃ (z : List Int) (x2 x6 x8 x9 x10 x11 : Option Pv), ρ = [none, some (.d .st), x2, some (.d (.int n)), some (.d (.bl (decide (b = 0)))), some (.d (.lst ((v :: vs).map vL))), x6, some (.d (.lst (iD z))), x8, x9, x10, x11] ∧ z.length = n.toNat ∧ V9 z) ?_ ?_
    · walk_at "pv"
      refine next_c (by decide) (by decide) fun d d0 d1 => ?_
      walk_at "pv"
      refine z_itD (fun _ => ?_) (fun _ => ?_)
      · walk_at "pv"
        refine ⟨n, rfl, by omega, by omega, fun u ul ub => ?_⟩
        walk_at "pv"
        exact ⟨u, _, _, _, _, _, _, rfl, ul, ⟨ub.mono (by decide), by omega⟩⟩
      · walk_at "pv"
        exact ⟨q1, _, _, _, _, _, _, rfl, by omega, ⟨fun x hx => by have := qb x hx; omega, by omega⟩⟩
    rintro ρ' ⟨z, x2, x6, x8, x9, x10, x11, rfl, zl, z9⟩
    refine p_cut (fun ρ => ∃ (z : List Int) (v : List Int) (vs : List (List Int)) (bb : Bool) (x2 x6 x8 x9 x10 x11 : Option Pv), ρ = [none, some (.d .st), x2, some (.d (.int n)), some (.d (.bl bb)), some (.d (.lst ((v :: vs).map vL))), x6, some (.d (.lst (iD z))), x8, x9, x10, x11] ∧ z.length = n.toNat ∧ V9 z ∧ vs.length ≤ 10 ∧ VsOk n.toNat (v :: vs) ∧ (bb = true → (∀ x ∈ z, x = 0 ∨ x = 1) ∧ ∀ u ∈ v :: vs, ∀ x ∈ u, x = 0 ∨ x = 1)) ?_ ?_
    · walk_at "pv"
      cases hb : decide (b = 0) with
      | false =>
        walk_at "pw"
        exact ⟨z, v, vs, false, _, _, _, _, _, _, rfl, zl, z9, by omega, vp, fun h => nomatch h⟩
      | true =>
        walk_at "pw"
        refine p_compI vL (fun j w => w.length = n.toNat ∧ ∀ x ∈ w, x = 0 ∨ x = 1) (by rw [List.length_map, List.length_cons]; omega) ?_ fun ws wl wr => ?_
        · intro j x k hx hk
          obtain ⟨u, hu, rfl⟩ := vmapI hx
          have um := List.mem_of_getElem? hu
          walk_at "pv"
          exact ⟨u, rfl, by have := (vp u um).1; omega, fun w w1 w2 => hk w ⟨w1.trans (vp u um).1, w2⟩⟩
        rw [List.length_map, List.length_cons] at wl
        obtain ⟨w, ws, rfl⟩ : ∃ v t, ws = v :: t := by
          cases ws with
          | nil => cases wl
          | cons v t => exact ⟨v, t, rfl⟩
        rw [List.length_cons] at wl
        have wr2 : ∀ u ∈ w :: ws, u.length = n.toNat ∧ ∀ x ∈ u, x = 0 ∨ x = 1 := fun u hu => by
          obtain ⟨j, hj⟩ := List.getElem?_of_mem hu
          exact wr j u hj
        walk_at "pv"
        refine ⟨z, rfl, by omega, fun y yl yb => ?_⟩
        walk_at "pv"
        exact ⟨y, w, ws, true, _, _, _, _, _, _, rfl, by omega, ⟨fun x hx => by rcases yb x hx with h | h <;> omega, by omega⟩, by omega, fun u hu => ⟨(wr2 u hu).1, fun x hx => by rcases (wr2 u hu).2 x hx with h | h <;> omega⟩, fun _ => ⟨yb, fun u hu => (wr2 u hu).2⟩⟩
    rintro ρ' ⟨z, v, vs, bb, x2, x6, x8, x9, x10, x11, rfl, zl, z9, vl, vp, hb⟩
    have vn := (vp v (List.mem_cons_self ..)).1
    walk_at "pv"
    refine ⟨v, vs, rfl, by omega, by omega, by rw [vn]; exact vp, fun f ok hold => ?_⟩
    walk_at "pv"
    refine ⟨f, rfl, ok, ?_⟩
    walk_at "pv"
    refine p_loop (fun j ρ => ∃ (x9 x11 : Option Pv), ρ = [none, some (.d .st), x2, some (.d (.int n)), some (.d (.bl bb)), some (.d (.lst ((v :: vs).map vL))), x6, some (.d (.lst (iD z))), x8, x9, some (.d f.da), x11]) ?_ ?_ ?_
    · exact ⟨_, _, rfl⟩
    · rintro j x ρ' hx ⟨x9, x11, rfl⟩
      obtain ⟨u, hu, rfl⟩ := vmapI hx
      have um := List.mem_of_getElem? hu
      obtain ⟨ul, ub⟩ := vp u um
      have u9 : V9 u := ⟨ub.mono (by decide), by omega⟩
      have hf := hold u um
      have hlen : u.length = z.length := by omega
      unfold P_law_b1
      walk_at "pv"
      refine any_hold (fun _ q => p_var rfl q) (fun _ q => by walk_at "pv"; exact ⟨rfl, rfl, _, _, _, _, iD u, [], [], rfl, .inl rfl, .inr rfl, .inr rfl, by decide, by decide, p_nil q⟩) rfl ok u9.ok ?_
      rw [hf]
      walk_at "pw"
      refine any_ld (fun _ q => p_var rfl q) (fun _ q => p_cons (p_cb (p_cons (p_var rfl (p_nil (p_listL (p_nil q))))))) (.inl rfl) ok z9.ok ?_
      walk_at "pv"
      refine ⟨_, _, z, u, rfl, .inl rfl, .inl rfl, hlen.symm, z9.ok, u9.ok, ?_⟩
      walk_at "pv"
      rw [decide_eq_false (show ¬ distZ z u < f.ld z by have := safe_ld hlen hf; omega)]
      walk_at "pw"
      have lf : bb = true → f.lf z ≤ diffZ z u := fun h => safe_lf hlen hf (hb h).1 ((hb h).2 u um)
      cases bb with
      | false =>
        walk_at "pw"
        refine any_mp (fun _ q => p_var rfl q) (fun _ q => p_cons (p_cb (p_cons (p_var rfl (p_nil (p_listL (p_nil q))))))) (.inl rfl) ok z9.ok ?_
        walk_at "pv"
        cases hm : f.mp z with
        | none =>
          unfold oI
          walk_at "py"
          exact ⟨_, _, rfl⟩
        | some m =>
          unfold oI
          walk_at "py"
          refine ⟨_, _, z, u, rfl, .inl rfl, .inl rfl, hlen.symm, z9.ok, u9.ok, ?_⟩
          walk_at "pv"
          rw [decide_eq_false (show ¬ m < innerZ z u by have := safe_mp hlen hf hm; omega)]
          walk_at "py"
          exact ⟨_, _, rfl⟩
      | true =>
        walk_at "pw"
        refine any_lf (fun _ q => p_var rfl q) (fun _ q => p_cons (p_cb (p_cons (p_var rfl (p_nil (p_listL (p_nil q))))))) (.inl rfl) ok z9.ok ?_
        walk_at "pv"
        refine ⟨_, _, z, u, rfl, .inl rfl, .inl rfl, hlen.symm, z9, u9, ?_⟩
        walk_at "pv"
        rw [decide_eq_false (show ¬ diffZ z u < f.lf z by have := lf rfl; omega)]
        walk_at "pw"
        refine any_mp (fun _ q => p_var rfl q) (fun _ q => p_cons (p_cb (p_cons (p_var rfl (p_nil (p_listL (p_nil q))))))) (.inl rfl) ok z9.ok ?_
        walk_at "pv"
        cases hm : f.mp z with
        | none =>
          unfold oI
          walk_at "py"
          exact ⟨_, _, rfl⟩
        | some m =>
          unfold oI
          walk_at "py"
          refine ⟨_, _, z, u, rfl, .inl rfl, .inl rfl, hlen.symm, z9.ok, u9.ok, ?_⟩
          walk_at "pv"
          rw [decide_eq_false (show ¬ m < innerZ z u by have := safe_mp hlen hf hm; omega)]
          walk_at "py"
          exact ⟨_, _, rfl⟩
    · rintro ρ' ⟨x9, x11, rfl⟩
      exact ⟨_, _, _, _, _, _, _, _, _, _, rfl⟩
  · rintro ρ' ⟨x2, x3, x4, x5, x6, x7, x8, x9, x10, x11, rfl⟩
    walk_at "pv"
    try rfl
theorem w_law {K : PySem.W.Frag} {c : CEnv} : Wd (T_law K c) N_law 1 (sp_law K) := by
  unfold T_law
  exact wd_law (c := c) S_law rfl q_law
/-! ### the text by places, and its defs, each once -/
def topS (i : Nat) : Stmt := PySem.Challenge.pw_surenear_k21_bounds_of_vectors_are_safe.main.body.getD i (.Pass ⟨0, 0, 0, 0⟩)
section
variable {P : Program} {w : World} {K : PySem.W.Frag} {mg : Str → Option Value} {base : Heap} {c : CEnv}
abbrev s_law_row : Stmt := (topS 33)
theorem sc_law_row : FnScope N_law_row ["_law_script", "_law_k"] (defScope s_law_row) := ⟨rfl, rfl, rfl, by decide +kernel, rfl, by decide +kernel, by decide +kernel⟩
theorem ok_law_row (m_len : mg "len" = none) (m_int : mg "int" = none) {f : Addr} {fd : FuncData} (F : Fun K "_law_row" "_law_row" s_law_row f fd) : FnOk P w K mg base CX0 1 f fd ["_law_script", "_law_k"] (sp_law_row K) := by
  have sc := sc_law_row
  refine F.ok sc_law_row (fun vs H Q E h => ((w_law_row) vs H Q E h).1) (fun cdv A outer s H vs Q E hr h => ⟨T_law_row K, ?_, ((w_law_row) vs H Q E h).2⟩)
  exact (pss_cons (ps_set (i := 2) sc.nd rfl (by first | exact Or.inl rfl | exact Or.inr rfl) pe_int)
      (pss_cut (ps_if (pt_cmpR (op_uLt hr.units) (pv 1) (pe_callB call_uLen (by rfl) m_len (by decide +kernel) (pa_cons (pv 0) pa_nil)) (nomark _)) (pss_one (ps_set (i := 2) sc.nd rfl (by first | exact Or.inl rfl | exact Or.inr rfl) (pe_ix ix_uIx (pv 0) (pv 1) (fun _ _ => rfl)))) pss_nil)
      (pss_cut (ps_if (pt_cmpR (op_uLt hr.units) (pv 2) pe_int (nomark _)) (pss_one (ps_set (i := 2) sc.nd rfl (by first | exact Or.inl rfl | exact Or.inr rfl) (pe_op op_uSub (pe_op op_uMul (pe_un un_uNeg pe_int) (pv 2)) pe_int))) pss_nil)
      (pss_cut (ps_if (pt_cmpR (op_uLt hr.units) (pv 2) (pe_op op_uPow pe_int pe_int) (nomark _)) (pss_cons (ps_set (i := 3) sc.nd rfl (by first | exact Or.inl rfl | exact Or.inr rfl) (pe_op op_uMod (pe_callTy call_uInt (by rfl) m_int (by decide +kernel) (pa_cons (pe_op op_uAdd (pe_op op_uAdd (pe_op op_uMul (pv 2) pe_int) (pe_op op_uMul (pv 1) pe_int)) pe_int) pa_nil)) pe_int))
      (pss_cons (ps_set (i := 4) sc.nd rfl (by first | exact Or.inl rfl | exact Or.inr rfl) (pe_op op_uMod (pe_callTy call_uInt (by rfl) m_int (by decide +kernel) (pa_cons (pe_op op_uAdd (pe_op op_uAdd (pe_op op_uAdd (pe_op op_uMul (pv 3) pe_int) (pe_op op_uMul (pv 2) pe_int)) (pv 1)) pe_int) pa_nil)) pe_int))
      (pss_cons (ps_set (i := 5) sc.nd rfl (by first | exact Or.inl rfl | exact Or.inr rfl) (pe_op op_uMod (pe_callTy call_uInt (by rfl) m_int (by decide +kernel) (pa_cons (pe_op op_uAdd (pe_op op_uAdd (pe_op op_uMul (pv 4) pe_int) (pe_op op_uMul (pv 3) (pv 4))) pe_int) pa_nil)) pe_int))
      (pss_one (ps_set (i := 2) sc.nd rfl (by first | exact Or.inl rfl | exact Or.inr rfl) (pe_op op_uAdd (pe_op op_uAdd (pv 3) (pe_op op_uMul (pv 4) pe_int)) (pe_op op_uMul (pv 5) (pe_op op_uPow pe_int pe_int)))))))) pss_nil)
      (pss_one (ps_ret (pv 2)))))))
abbrev s_law_next : Stmt := (topS 34)
theorem sc_law_next : FnScope N_law_next ["_law_state", "_law_many"] (defScope s_law_next) := ⟨rfl, rfl, rfl, by decide +kernel, rfl, by decide +kernel, by decide +kernel⟩
theorem ok_law_next (D_law_row : Dfn P w K mg base 1 "_law_row" ["_law_script", "_law_k"] (sp_law_row K)) (m_int : mg "int" = none) {f : Addr} {fd : FuncData} (F : Fun K "_law_next" "_law_next" s_law_next f fd) : FnOk P w K mg base CX0 2 f fd ["_law_state", "_law_many"] (sp_law_next K) := by
  have sc := sc_law_next
  refine F.ok sc_law_next (fun vs H Q E h => ((w_law_next) vs H Q E h).1) (fun cdv A outer s H vs Q E hr h => ⟨T_law_next K, ?_, ((w_law_next) vs H Q E h).2⟩)
  exact (pss_cut (ps_if (pt_cmpR (op_uLt hr.units) (pe_ix ix_uIx (pv 0) pe_int (fun _ _ => rfl)) (pv 1) (nomark _)) (pss_cons (ps_asg (z_call D_law_row (hr.mono (by decide)) (by rfl) (pa_cons (pe_ix ix_uIx (pv 0) pe_int (fun _ _ => rfl)) (pa_cons (pe_ix ix_uIx (pv 0) pe_int (fun _ _ => rfl)) pa_nil))) (pg_sub (pv 0) pe_int set_list))
      (pss_one (ps_asg (pe_op op_uAdd (pe_ix ix_uIx (pv 0) pe_int (fun _ _ => rfl)) pe_int) (pg_sub (pv 0) pe_int set_list)))) pss_nil)
      (pss_cons (ps_set (i := 2) sc.nd rfl (by first | exact Or.inl rfl | exact Or.inr rfl) (pe_op op_uMod (pe_callTy call_uInt (by rfl) m_int (by decide +kernel) (pa_cons (pe_ix ix_uIx (pv 0) pe_int (fun _ _ => rfl)) pa_nil)) (pv 1)))
      (pss_cons (ps_asg (pe_op op_uDiv (pe_ix ix_uIx (pv 0) pe_int (fun _ _ => rfl)) (pv 1)) (pg_sub (pv 0) pe_int set_list))
      (pss_one (ps_ret (pv 2))))))
abbrev s_law_vector : Stmt := (topS 35)
theorem sc_law_vector : FnScope N_law_vector ["_law_state", "_law_size"] (defScope s_law_vector) := ⟨rfl, rfl, rfl, by decide +kernel, rfl, by decide +kernel, by decide +kernel⟩
theorem ok_law_vector (D_law_next : Dfn P w K mg base 2 "_law_next" ["_law_state", "_law_many"] (sp_law_next K)) (m_range : mg "range" = none) {f : Addr} {fd : FuncData} (F : Fun K "_law_vector" "_law_vector" s_law_vector f fd) : FnOk P w K mg base CX0 3 f fd ["_law_state", "_law_size"] (sp_law_vector K c) := by
  have sc := sc_law_vector
  refine F.ok sc_law_vector (fun vs H Q E h => ((w_law_vector (c := c)) vs H Q E h).1) (fun cdv A outer s H vs Q E hr h => ⟨T_law_vector K, ?_, ((w_law_vector (c := c)) vs H Q E h).2⟩)
  exact (pss_cons (ps_set (i := 2) sc.nd rfl (by first | exact Or.inl rfl | exact Or.inr rfl) (pe_ix ix_uIx (pe_lst (pa_cons pe_int (pa_cons pe_int (pa_cons pe_int pa_nil)))) (z_call D_law_next (hr.mono (by decide)) (by rfl) (pa_cons (pv 0) (pa_cons pe_int pa_nil))) (fun _ _ => rfl)))
      (pss_one (ps_ret (pe_lc (own := [("_law_k", 3)]) (g := (gName 3)) (tt := tYes) rfl sc.nd (pi_range1 (by rfl) m_range (pa_cons (pv 1) pa_nil)) (blkOk_by (N := N_law_vector) (sc := defScope s_law_vector) (by decide +kernel)) (fun _ _ _ _ _ => (pg_name (i := 3) sc.nd rfl (by first | exact Or.inl rfl | exact Or.inr rfl))) (fun _ _ _ _ _ => pts_nil) (fun _ _ _ _ _ => (pe_op op_uSub (z_call D_law_next (hr.mono (by decide)) (by rfl) (pa_cons (pv 0) (pa_cons (pe_op op_uAdd (pe_op op_uMul pe_int (pv 2)) pe_int) pa_nil))) (pv 2)))))))
abbrev s_law_bits : Stmt := (topS 42)
theorem sc_law_bits : FnScope N_law_bits ["_law_vector_here"] (defScope s_law_bits) := ⟨rfl, rfl, rfl, by decide +kernel, rfl, by decide +kernel, by decide +kernel⟩
theorem ok_law_bits (m_int : mg "int" = none) {f : Addr} {fd : FuncData} (F : Fun K "_law_bits" "_law_bits" s_law_bits f fd) : FnOk P w K mg base CX0 1 f fd ["_law_vector_here"] (sp_law_bits K c) := by
  have sc := sc_law_bits
  refine F.ok sc_law_bits (fun vs H Q E h => ((w_law_bits (c := c)) vs H Q E h).1) (fun cdv A outer s H vs Q E hr h => ⟨T_law_bits K, ?_, ((w_law_bits (c := c)) vs H Q E h).2⟩)
  exact (pss_one (ps_ret (pe_lc (own := [("_law_number", 1)]) (g := (gName 1)) (tt := tYes) rfl sc.nd (pi_sq (pv 0)) (blkOk_by (N := N_law_bits) (sc := defScope s_law_bits) (by decide +kernel)) (fun _ _ _ _ _ => (pg_name (i := 1) sc.nd rfl (by first | exact Or.inl rfl | exact Or.inr rfl))) (fun _ _ _ _ _ => pts_nil) (fun _ _ _ _ _ => (pe_op op_uMod (pe_callTy call_uInt (by rfl) m_int (by decide +kernel) (pa_cons (pv 1) pa_nil)) pe_int)))))
abbrev s_law_distance : Stmt := (topS 36)
theorem sc_law_distance : FnScope N_law_distance ["_law_a", "_law_b"] (defScope s_law_distance) := ⟨rfl, rfl, rfl, by decide +kernel, rfl, by decide +kernel, by decide +kernel⟩
theorem ok_law_distance (m_len : mg "len" = none) (m_range : mg "range" = none) {f : Addr} {fd : FuncData} (F : Fun K "_law_distance" "_law_distance" s_law_distance f fd) : FnOk P w K mg base CX0 1 f fd ["_law_a", "_law_b"] (sp_law_distance K c) := by
  have sc := sc_law_distance
  refine F.ok sc_law_distance (fun vs H Q E h => ((w_law_distance (c := c)) vs H Q E h).1) (fun cdv A outer s H vs Q E hr h => ⟨T_law_distance K, ?_, ((w_law_distance (c := c)) vs H Q E h).2⟩)
  exact (pss_cons (ps_set (i := 2) sc.nd rfl (by first | exact Or.inl rfl | exact Or.inr rfl) pe_int)
      (pss_cons (ps_for PassesOwn.never rfl (pi_range1 (by rfl) m_range (pa_cons (pe_callB call_uLen (by rfl) m_len (by decide +kernel) (pa_cons (pv 0) pa_nil)) pa_nil)) (pg_name (i := 3) sc.nd rfl (by first | exact Or.inl rfl | exact Or.inr rfl)) (pss_one (ps_set (i := 2) sc.nd rfl (by first | exact Or.inl rfl | exact Or.inr rfl) (pe_op op_uAdd (pv 2) (pe_op op_uMul (pe_op op_uSub (pe_ix ix_uIx (pv 0) (pv 3) (fun _ _ => rfl)) (pe_ix ix_uIx (pv 1) (pv 3) (fun _ _ => rfl))) (pe_op op_uSub (pe_ix ix_uIx (pv 0) (pv 3) (fun _ _ => rfl)) (pe_ix ix_uIx (pv 1) (pv 3) (fun _ _ => rfl))))))))
      (pss_one (ps_ret (pv 2)))))
abbrev s_law_true_parts : Stmt := (topS 40)
theorem sc_law_true_parts : FnScope N_law_true_parts ["_law_state", "_law_vector_here", "_law_others"] (defScope s_law_true_parts) := ⟨rfl, rfl, rfl, by decide +kernel, rfl, by decide +kernel, by decide +kernel⟩
theorem ok_law_true_parts (D_law_next : Dfn P w K mg base 2 "_law_next" ["_law_state", "_law_many"] (sp_law_next K)) (D_law_distance : Dfn P w K mg base 1 "_law_distance" ["_law_a", "_law_b"] (sp_law_distance K c)) (m_range : mg "range" = none) (m_len : mg "len" = none) (m_min : mg "min" = none) (m_max : mg "max" = none) {f : Addr} {fd : FuncData} (F : Fun K "_law_true_parts" "_law_true_parts" s_law_true_parts f fd) : FnOk P w K mg base CX0 3 f fd ["_law_state", "_law_vector_here", "_law_others"] (sp_law_true_parts K c) := by
  have sc := sc_law_true_parts
  refine F.ok sc_law_true_parts (fun vs H Q E h => ((w_law_true_parts (c := c)) vs H Q E h).1) (fun cdv A outer s H vs Q E hr h => ⟨T_law_true_parts K c, ?_, ((w_law_true_parts (c := c)) vs H Q E h).2⟩)
  exact (pss_cons (ps_set (i := 3) sc.nd rfl (by first | exact Or.inl rfl | exact Or.inr rfl) (pe_lst pa_nil))
      (pss_cons (ps_set (i := 4) sc.nd rfl (by first | exact Or.inl rfl | exact Or.inr rfl) pe_int)
      (pss_cons (ps_for PassesOwn.never rfl (pi_range1 (by rfl) m_range (pa_cons pe_int pa_nil)) (pg_name (i := 5) sc.nd rfl (by first | exact Or.inl rfl | exact Or.inr rfl)) (pss_cons (ps_set (i := 6) sc.nd rfl (by first | exact Or.inl rfl | exact Or.inr rfl) (pe_callB (call_uMin rfl) (by rfl) m_min (by decide +kernel) (pa_cons (pe_op op_uSub (pe_callB call_uLen (by rfl) m_len (by decide +kernel) (pa_cons (pv 1) pa_nil)) (pv 4)) (pa_cons (z_call D_law_next (hr.mono (by decide)) (by rfl) (pa_cons (pv 0) (pa_cons pe_int pa_nil))) pa_nil))))
      (pss_cut (ps_if (pt_cmpR (op_uEq hr.units) (pv 5) pe_int (nomark _)) (pss_one (ps_set (i := 6) sc.nd rfl (by first | exact Or.inl rfl | exact Or.inr rfl) (pe_op op_uSub (pe_callB call_uLen (by rfl) m_len (by decide +kernel) (pa_cons (pv 1) pa_nil)) (pv 4)))) pss_nil)
      (pss_cons (by first | exact (ps_setLc (i := 7) (own := [("_law_number", 8)]) (g := (gName 8)) (tt := tYes) rfl sc.nd rfl rfl (sw_true rfl rfl rfl (by decide +kernel)) (pi_sq (pe_slice sl_uSl (pv 1) (po_some (pv 4)) (po_some (pe_op op_uAdd (pv 4) (pv 6))))) (blkOk_by (N := N_law_true_parts) (sc := defScope s_law_true_parts) (by decide +kernel)) (fun _ _ _ _ _ => (pg_name (i := 8) sc.nd rfl (by first | exact Or.inl rfl | exact Or.inr rfl))) (fun _ _ _ _ _ => pts_nil) (fun _ _ _ _ _ => (pe_op op_uSub (pe_op op_uAdd (pv 8) (z_call D_law_next (hr.mono (by decide)) (by rfl) (pa_cons (pv 0) (pa_cons pe_int pa_nil)))) pe_int))) | exact (ps_set (i := 7) sc.nd rfl (Or.inr rfl) (pe_lc (own := [("_law_number", 8)]) (g := (gName 8)) (tt := tYes) rfl sc.nd (pi_sq (pe_slice sl_uSl (pv 1) (po_some (pv 4)) (po_some (pe_op op_uAdd (pv 4) (pv 6))))) (blkOk_by (N := N_law_true_parts) (sc := defScope s_law_true_parts) (by decide +kernel)) (fun _ _ _ _ _ => (pg_name (i := 8) sc.nd rfl (by first | exact Or.inl rfl | exact Or.inr rfl))) (fun _ _ _ _ _ => pts_nil) (fun _ _ _ _ _ => (pe_op op_uSub (pe_op op_uAdd (pv 8) (z_call D_law_next (hr.mono (by decide)) (by rfl) (pa_cons (pv 0) (pa_cons pe_int pa_nil)))) pe_int)))))
      (pss_cons (ps_set (i := 9) sc.nd rfl (by first | exact Or.inl rfl | exact Or.inr rfl) pe_int)
      (pss_cons (ps_for PassesOwn.never rfl (pi_sq (pe_op op_uAdd (pe_lst (pa_cons (pv 1) pa_nil)) (pv 2))) (pg_name (i := 10) sc.nd rfl (by first | exact Or.inl rfl | exact Or.inr rfl)) (pss_one (ps_set (i := 9) sc.nd rfl (by first | exact Or.inl rfl | exact Or.inr rfl) (pe_callB (call_uMax rfl) (by rfl) m_max (by decide +kernel) (pa_cons (pv 9) (pa_cons (z_call D_law_distance (hr.mono (by decide)) (by rfl) (pa_cons (pv 7) (pa_cons (pe_slice sl_uSl (pv 10) (po_some (pv 4)) (po_some (pe_op op_uAdd (pv 4) (pv 6)))) pa_nil))) pa_nil))))))
      (pss_cons (ps_expr (pe_bm PySem.F.plainAttrs_list PySem.F.slot_list_append PySem.F.type_list_append mt_append (pv 3) (pa_cons (pe_tup (pa_cons (pv 4) (pa_cons (pv 7) (pa_cons (pe_op op_uAdd (pv 9) (z_call D_law_next (hr.mono (by decide)) (by rfl) (pa_cons (pv 0) (pa_cons pe_int pa_nil)))) pa_nil)))) pa_nil)))
      (pss_cons (ps_set (i := 4) sc.nd rfl (by first | exact Or.inl rfl | exact Or.inr rfl) (pe_op op_uAdd (pe_op op_uAdd (pv 4) (pv 6)) (pe_ix ix_uIx (pe_lst (pa_cons pe_int (pa_cons pe_int (pa_cons pe_int (pa_cons pe_int pa_nil))))) (z_call D_law_next (hr.mono (by decide)) (by rfl) (pa_cons (pv 0) (pa_cons pe_int pa_nil))) (fun _ _ => rfl))))
      (pss_one (ps_if (pt_cmpR op_uGt (pv 4) (pe_callB call_uLen (by rfl) m_len (by decide +kernel) (pa_cons (pv 1) pa_nil)) (nomark _)) (pss_one (ps_set (i := 4) sc.nd rfl (by first | exact Or.inl rfl | exact Or.inr rfl) (pe_callB call_uLen (by rfl) m_len (by decide +kernel) (pa_cons (pv 1) pa_nil)))) pss_nil))))))))))
      (pss_one (ps_ret (pe_tup (pa_cons pe_str (pa_cons (pv 3) pa_nil))))))))
abbrev s_law_inner : Stmt := (topS 37)
theorem sc_law_inner : FnScope N_law_inner ["_law_a", "_law_b"] (defScope s_law_inner) := ⟨rfl, rfl, rfl, by decide +kernel, rfl, by decide +kernel, by decide +kernel⟩
theorem ok_law_inner (m_len : mg "len" = none) (m_range : mg "range" = none) {f : Addr} {fd : FuncData} (F : Fun K "_law_inner" "_law_inner" s_law_inner f fd) : FnOk P w K mg base CX0 1 f fd ["_law_a", "_law_b"] (sp_law_inner K c) := by
  have sc := sc_law_inner
  refine F.ok sc_law_inner (fun vs H Q E h => ((w_law_inner (c := c)) vs H Q E h).1) (fun cdv A outer s H vs Q E hr h => ⟨T_law_inner K, ?_, ((w_law_inner (c := c)) vs H Q E h).2⟩)
  exact (pss_cons (ps_set (i := 2) sc.nd rfl (by first | exact Or.inl rfl | exact Or.inr rfl) pe_int)
      (pss_cons (ps_for PassesOwn.never rfl (pi_range1 (by rfl) m_range (pa_cons (pe_callB call_uLen (by rfl) m_len (by decide +kernel) (pa_cons (pv 0) pa_nil)) pa_nil)) (pg_name (i := 3) sc.nd rfl (by first | exact Or.inl rfl | exact Or.inr rfl)) (pss_one (ps_set (i := 2) sc.nd rfl (by first | exact Or.inl rfl | exact Or.inr rfl) (pe_op op_uAdd (pv 2) (pe_op op_uMul (pe_ix ix_uIx (pv 0) (pv 3) (fun _ _ => rfl)) (pe_ix ix_uIx (pv 1) (pv 3) (fun _ _ => rfl)))))))
      (pss_one (ps_ret (pv 2)))))
abbrev s_law_differing : Stmt := (topS 38)
theorem sc_law_differing : FnScope N_law_differing ["_law_a", "_law_b"] (defScope s_law_differing) := ⟨rfl, rfl, rfl, by decide +kernel, rfl, by decide +kernel, by decide +kernel⟩
theorem ok_law_differing (m_len : mg "len" = none) (m_range : mg "range" = none) {f : Addr} {fd : FuncData} (F : Fun K "_law_differing" "_law_differing" s_law_differing f fd) : FnOk P w K mg base CX0 1 f fd ["_law_a", "_law_b"] (sp_law_differing K c) := by
  have sc := sc_law_differing
  refine F.ok sc_law_differing (fun vs H Q E h => ((w_law_differing (c := c)) vs H Q E h).1) (fun cdv A outer s H vs Q E hr h => ⟨T_law_differing K, ?_, ((w_law_differing (c := c)) vs H Q E h).2⟩)
  exact (pss_one (ps_ret (pe_callB call_uLen (by rfl) m_len (by decide +kernel) (pa_cons (pe_lc (own := [("_law_k", 2)]) (g := (gName 2)) (tt := (tTest (tOp (uNe K) (tOp (uIx K) (tVar 0) (tVar 2)) (tOp (uIx K) (tVar 1) (tVar 2))))) rfl sc.nd (pi_range1 (by rfl) m_range (pa_cons (pe_callB call_uLen (by rfl) m_len (by decide +kernel) (pa_cons (pv 0) pa_nil)) pa_nil)) (blkOk_by (N := N_law_differing) (sc := defScope s_law_differing) (by decide +kernel)) (fun _ _ _ _ _ => (pg_name (i := 2) sc.nd rfl (by first | exact Or.inl rfl | exact Or.inr rfl))) (fun _ _ _ _ _ => (pts_one (pt_cmpR (op_uNe hr.units) (pe_ix ix_uIx (pv 0) (pv 2) (fun _ _ => rfl)) (pe_ix ix_uIx (pv 1) (pv 2) (fun _ _ => rfl)) (nomark _)))) (fun _ _ _ _ _ => (pv 2))) pa_nil))))
abbrev s_law_true_fact : Stmt := (topS 41)
theorem sc_law_true_fact : FnScope N_law_true_fact ["_law_state", "_law_vectors"] (defScope s_law_true_fact) := ⟨rfl, rfl, rfl, by decide +kernel, rfl, by decide +kernel, by decide +kernel⟩
theorem ok_law_true_fact (D_law_next : Dfn P w K mg base 2 "_law_next" ["_law_state", "_law_many"] (sp_law_next K)) (D_law_true_parts : Dfn P w K mg base 3 "_law_true_parts" ["_law_state", "_law_vector_here", "_law_others"] (sp_law_true_parts K c)) (D_law_vector : Dfn P w K mg base 3 "_law_vector" ["_law_state", "_law_size"] (sp_law_vector K c)) (D_law_distance : Dfn P w K mg base 1 "_law_distance" ["_law_a", "_law_b"] (sp_law_distance K c)) (D_law_inner : Dfn P w K mg base 1 "_law_inner" ["_law_a", "_law_b"] (sp_law_inner K c)) (D_law_differing : Dfn P w K mg base 1 "_law_differing" ["_law_a", "_law_b"] (sp_law_differing K c)) (m_len : mg "len" = none) (m_list : mg "list" = none) (m_range : mg "range" = none) (m_min : mg "min" = none) (m_max : mg "max" = none) {f : Addr} {fd : FuncData} (F : Fun K "_law_true_fact" "_law_true_fact" s_law_true_fact f fd) : FnOk P w K mg base CX0 4 f fd ["_law_state", "_law_vectors"] (sp_law_true_fact K c) := by
  have sc := sc_law_true_fact
  refine F.ok sc_law_true_fact (fun vs H Q E h => ((w_law_true_fact (c := c)) vs H Q E h).1) (fun cdv A outer s H vs Q E hr h => ⟨T_law_true_fact K c, ?_, ((w_law_true_fact (c := c)) vs H Q E h).2⟩)
  exact (pss_cons (ps_set (i := 2) sc.nd rfl (by first | exact Or.inl rfl | exact Or.inr rfl) (z_call D_law_next (hr.mono (by decide)) (by rfl) (pa_cons (pv 0) (pa_cons pe_int pa_nil))))
      (pss_cons (ps_set (i := 3) sc.nd rfl (by first | exact Or.inl rfl | exact Or.inr rfl) (pe_ix ix_uIx (pv 1) pe_int (fun _ _ => rfl)))
      (pss_cons (ps_if (pt_cmpR (op_uEq hr.units) (pv 2) pe_int (nomark _)) (pss_one (ps_ret (z_call D_law_true_parts (hr.mono (by decide)) (by rfl) (pa_cons (pv 0) (pa_cons (pv 3) (pa_cons (pe_slice sl_uSl (pv 1) (po_some pe_int) po_none) pa_nil)))))) pss_nil)
      (pss_cons (ps_if (pt_cmpR (op_uEq hr.units) (pv 2) pe_int (nomark _)) (pss_cons (by first | exact (ps_setLc (i := 4) (own := [("_law_number", 5)]) (g := (gName 5)) (tt := tYes) rfl sc.nd rfl rfl (sw_true rfl rfl rfl (by decide +kernel)) (pi_sq (pv 3)) (blkOk_by (N := N_law_true_fact) (sc := defScope s_law_true_fact) (by decide +kernel)) (fun _ _ _ _ _ => (pg_name (i := 5) sc.nd rfl (by first | exact Or.inl rfl | exact Or.inr rfl))) (fun _ _ _ _ _ => pts_nil) (fun _ _ _ _ _ => (pe_op op_uSub (pe_op op_uAdd (pv 5) (z_call D_law_next (hr.mono (by decide)) (by rfl) (pa_cons (pv 0) (pa_cons pe_int pa_nil)))) pe_int))) | exact (ps_set (i := 4) sc.nd rfl (Or.inr rfl) (pe_lc (own := [("_law_number", 5)]) (g := (gName 5)) (tt := tYes) rfl sc.nd (pi_sq (pv 3)) (blkOk_by (N := N_law_true_fact) (sc := defScope s_law_true_fact) (by decide +kernel)) (fun _ _ _ _ _ => (pg_name (i := 5) sc.nd rfl (by first | exact Or.inl rfl | exact Or.inr rfl))) (fun _ _ _ _ _ => pts_nil) (fun _ _ _ _ _ => (pe_op op_uSub (pe_op op_uAdd (pv 5) (z_call D_law_next (hr.mono (by decide)) (by rfl) (pa_cons (pv 0) (pa_cons pe_int pa_nil)))) pe_int)))))
      (pss_cons (ps_set (i := 6) sc.nd rfl (by first | exact Or.inl rfl | exact Or.inr rfl) (z_call D_law_vector (hr.mono (by decide)) (by rfl) (pa_cons (pv 0) (pa_cons (pe_callB call_uLen (by rfl) m_len (by decide +kernel) (pa_cons (pv 3) pa_nil)) pa_nil))))
      (pss_cons (ps_for PassesOwn.never rfl (pi_sq (pv 1)) (pg_name (i := 7) sc.nd rfl (by first | exact Or.inl rfl | exact Or.inr rfl)) (pss_one (ps_if (pt_cmpR op_uGt (z_call D_law_distance (hr.mono (by decide)) (by rfl) (pa_cons (pv 7) (pa_cons (pv 4) pa_nil))) (z_call D_law_distance (hr.mono (by decide)) (by rfl) (pa_cons (pv 7) (pa_cons (pv 6) pa_nil))) (nomark _)) (pss_one (ps_ret (pe_tup (pa_cons pe_str (pa_cons (pv 4) (pa_cons (pe_callTy call_uList (by rfl) m_list (by decide +kernel) (pa_cons (pv 4) pa_nil)) pa_nil)))))) pss_nil)))
      (pss_one (ps_ret (pe_tup (pa_cons pe_str (pa_cons (pv 4) (pa_cons (pv 6) pa_nil))))))))) pss_nil)
      (pss_cons (ps_if (pt_cmpR (op_uEq hr.units) (pv 2) pe_int (nomark _)) (pss_cons (by first | exact (ps_setLc (i := 8) (own := [("_law_k", 9)]) (g := (gName 9)) (tt := tYes) rfl sc.nd rfl rfl (sw_true rfl rfl rfl (by decide +kernel)) (pi_range1 (by rfl) m_range (pa_cons (pe_callB call_uLen (by rfl) m_len (by decide +kernel) (pa_cons (pv 3) pa_nil)) pa_nil)) (blkOk_by (N := N_law_true_fact) (sc := defScope s_law_true_fact) (by decide +kernel)) (fun _ _ _ _ _ => (pg_name (i := 9) sc.nd rfl (by first | exact Or.inl rfl | exact Or.inr rfl))) (fun _ _ _ _ _ => pts_nil) (fun _ _ _ _ _ => (pe_op op_uSub (pe_callB (cr_min rfl) (by rfl) m_min (by decide +kernel) (pa_cons (pe_lc (own := [("_law_vector_here", 7)]) (g := (gName 7)) (tt := tYes) rfl sc.nd (pi_sq (pv 1)) (blkOk_by (by with_unfolding_all rfl)) (fun _ _ _ _ _ => (pg_name (i := 7) sc.nd rfl (by first | exact Or.inl rfl | exact Or.inr rfl))) (fun _ _ _ _ _ => pts_nil) (fun _ _ _ _ _ => (pe_ix ix_uIx (pv 7) (pv 9) (fun _ _ => rfl)))) pa_nil)) (z_call D_law_next (hr.mono (by decide)) (by rfl) (pa_cons (pv 0) (pa_cons pe_int pa_nil)))))) | exact (ps_set (i := 8) sc.nd rfl (Or.inr rfl) (pe_lc (own := [("_law_k", 9)]) (g := (gName 9)) (tt := tYes) rfl sc.nd (pi_range1 (by rfl) m_range (pa_cons (pe_callB call_uLen (by rfl) m_len (by decide +kernel) (pa_cons (pv 3) pa_nil)) pa_nil)) (blkOk_by (N := N_law_true_fact) (sc := defScope s_law_true_fact) (by decide +kernel)) (fun _ _ _ _ _ => (pg_name (i := 9) sc.nd rfl (by first | exact Or.inl rfl | exact Or.inr rfl))) (fun _ _ _ _ _ => pts_nil) (fun _ _ _ _ _ => (pe_op op_uSub (pe_callB (cr_min rfl) (by rfl) m_min (by decide +kernel) (pa_cons (pe_lc (own := [("_law_vector_here", 7)]) (g := (gName 7)) (tt := tYes) rfl sc.nd (pi_sq (pv 1)) (blkOk_by (by with_unfolding_all rfl)) (fun _ _ _ _ _ => (pg_name (i := 7) sc.nd rfl (by first | exact Or.inl rfl | exact Or.inr rfl))) (fun _ _ _ _ _ => pts_nil) (fun _ _ _ _ _ => (pe_ix ix_uIx (pv 7) (pv 9) (fun _ _ => rfl)))) pa_nil)) (z_call D_law_next (hr.mono (by decide)) (by rfl) (pa_cons (pv 0) (pa_cons pe_int pa_nil))))))))
      (pss_cons (by first | exact (ps_setLc (i := 10) (own := [("_law_k", 9)]) (g := (gName 9)) (tt := tYes) rfl sc.nd rfl rfl (sw_true rfl rfl rfl (by decide +kernel)) (pi_range1 (by rfl) m_range (pa_cons (pe_callB call_uLen (by rfl) m_len (by decide +kernel) (pa_cons (pv 3) pa_nil)) pa_nil)) (blkOk_by (N := N_law_true_fact) (sc := defScope s_law_true_fact) (by decide +kernel)) (fun _ _ _ _ _ => (pg_name (i := 9) sc.nd rfl (by first | exact Or.inl rfl | exact Or.inr rfl))) (fun _ _ _ _ _ => pts_nil) (fun _ _ _ _ _ => (pe_op op_uAdd (pe_callB (cr_max rfl) (by rfl) m_max (by decide +kernel) (pa_cons (pe_lc (own := [("_law_vector_here", 7)]) (g := (gName 7)) (tt := tYes) rfl sc.nd (pi_sq (pv 1)) (blkOk_by (by with_unfolding_all rfl)) (fun _ _ _ _ _ => (pg_name (i := 7) sc.nd rfl (by first | exact Or.inl rfl | exact Or.inr rfl))) (fun _ _ _ _ _ => pts_nil) (fun _ _ _ _ _ => (pe_ix ix_uIx (pv 7) (pv 9) (fun _ _ => rfl)))) pa_nil)) (z_call D_law_next (hr.mono (by decide)) (by rfl) (pa_cons (pv 0) (pa_cons pe_int pa_nil)))))) | exact (ps_set (i := 10) sc.nd rfl (Or.inr rfl) (pe_lc (own := [("_law_k", 9)]) (g := (gName 9)) (tt := tYes) rfl sc.nd (pi_range1 (by rfl) m_range (pa_cons (pe_callB call_uLen (by rfl) m_len (by decide +kernel) (pa_cons (pv 3) pa_nil)) pa_nil)) (blkOk_by (N := N_law_true_fact) (sc := defScope s_law_true_fact) (by decide +kernel)) (fun _ _ _ _ _ => (pg_name (i := 9) sc.nd rfl (by first | exact Or.inl rfl | exact Or.inr rfl))) (fun _ _ _ _ _ => pts_nil) (fun _ _ _ _ _ => (pe_op op_uAdd (pe_callB (cr_max rfl) (by rfl) m_max (by decide +kernel) (pa_cons (pe_lc (own := [("_law_vector_here", 7)]) (g := (gName 7)) (tt := tYes) rfl sc.nd (pi_sq (pv 1)) (blkOk_by (by with_unfolding_all rfl)) (fun _ _ _ _ _ => (pg_name (i := 7) sc.nd rfl (by first | exact Or.inl rfl | exact Or.inr rfl))) (fun _ _ _ _ _ => pts_nil) (fun _ _ _ _ _ => (pe_ix ix_uIx (pv 7) (pv 9) (fun _ _ => rfl)))) pa_nil)) (z_call D_law_next (hr.mono (by decide)) (by rfl) (pa_cons (pv 0) (pa_cons pe_int pa_nil))))))))
      (pss_one (ps_ret (pe_tup (pa_cons pe_str (pa_cons (pv 8) (pa_cons (pv 10) pa_nil)))))))) pss_nil)
      (pss_cons (ps_if (pt_cmpR (op_uEq hr.units) (pv 2) pe_int (nomark _)) (pss_cons (by first | exact (ps_setLc (i := 11) (own := [("_law_vector_here", 7)]) (g := (gName 7)) (tt := tYes) rfl sc.nd rfl rfl (sw_true rfl rfl rfl (by decide +kernel)) (pi_sq (pv 1)) (blkOk_by (N := N_law_true_fact) (sc := defScope s_law_true_fact) (by decide +kernel)) (fun _ _ _ _ _ => (pg_name (i := 7) sc.nd rfl (by first | exact Or.inl rfl | exact Or.inr rfl))) (fun _ _ _ _ _ => pts_nil) (fun _ _ _ _ _ => (z_call D_law_inner (hr.mono (by decide)) (by rfl) (pa_cons (pv 7) (pa_cons (pv 7) pa_nil))))) | exact (ps_set (i := 11) sc.nd rfl (Or.inr rfl) (pe_lc (own := [("_law_vector_here", 7)]) (g := (gName 7)) (tt := tYes) rfl sc.nd (pi_sq (pv 1)) (blkOk_by (N := N_law_true_fact) (sc := defScope s_law_true_fact) (by decide +kernel)) (fun _ _ _ _ _ => (pg_name (i := 7) sc.nd rfl (by first | exact Or.inl rfl | exact Or.inr rfl))) (fun _ _ _ _ _ => pts_nil) (fun _ _ _ _ _ => (z_call D_law_inner (hr.mono (by decide)) (by rfl) (pa_cons (pv 7) (pa_cons (pv 7) pa_nil)))))))
      (pss_one (ps_ret (pe_tup (pa_cons pe_str (pa_cons (pe_callB (call_uMax rfl) (by rfl) m_max (by decide +kernel) (pa_cons pe_int (pa_cons (pe_op op_uSub (pe_callB (cr_min rfl) (by rfl) m_min (by decide +kernel) (pa_cons (pv 11) pa_nil)) (z_call D_law_next (hr.mono (by decide)) (by rfl) (pa_cons (pv 0) (pa_cons pe_int pa_nil)))) pa_nil))) (pa_cons (pe_op op_uAdd (pe_callB (cr_max rfl) (by rfl) m_max (by decide +kernel) (pa_cons (pv 11) pa_nil)) (z_call D_law_next (hr.mono (by decide)) (by rfl) (pa_cons (pv 0) (pa_cons pe_int pa_nil)))) pa_nil))))))) pss_nil)
      (pss_cons (by first | exact (ps_setLc (i := 12) (own := [("_law_number", 5)]) (g := (gName 5)) (tt := tYes) rfl sc.nd rfl rfl (sw_true rfl rfl rfl (by decide +kernel)) (pi_sq (pv 3)) (blkOk_by (N := N_law_true_fact) (sc := defScope s_law_true_fact) (by decide +kernel)) (fun _ _ _ _ _ => (pg_name (i := 5) sc.nd rfl (by first | exact Or.inl rfl | exact Or.inr rfl))) (fun _ _ _ _ _ => pts_nil) (fun _ _ _ _ _ => (pe_op op_uAdd (pv 5) (pe_ix ix_uIx (pe_lst (pa_cons pe_int (pa_cons pe_int (pa_cons pe_int pa_nil)))) (z_call D_law_next (hr.mono (by decide)) (by rfl) (pa_cons (pv 0) (pa_cons pe_int pa_nil))) (fun _ _ => rfl))))) | exact (ps_set (i := 12) sc.nd rfl (Or.inr rfl) (pe_lc (own := [("_law_number", 5)]) (g := (gName 5)) (tt := tYes) rfl sc.nd (pi_sq (pv 3)) (blkOk_by (N := N_law_true_fact) (sc := defScope s_law_true_fact) (by decide +kernel)) (fun _ _ _ _ _ => (pg_name (i := 5) sc.nd rfl (by first | exact Or.inl rfl | exact Or.inr rfl))) (fun _ _ _ _ _ => pts_nil) (fun _ _ _ _ _ => (pe_op op_uAdd (pv 5) (pe_ix ix_uIx (pe_lst (pa_cons pe_int (pa_cons pe_int (pa_cons pe_int pa_nil)))) (z_call D_law_next (hr.mono (by decide)) (by rfl) (pa_cons (pv 0) (pa_cons pe_int pa_nil))) (fun _ _ => rfl)))))))
      (pss_one (ps_ret (pe_tup (pa_cons pe_str (pa_cons (pv 12) (pa_cons (pe_op op_uAdd (pe_callB (cr_max rfl) (by rfl) m_max (by decide +kernel) (pa_cons (pe_lc (own := [("_law_vector_here", 7)]) (g := (gName 7)) (tt := tYes) rfl sc.nd (pi_sq (pv 1)) (blkOk_by (N := N_law_true_fact) (sc := defScope s_law_true_fact) (by decide +kernel)) (fun _ _ _ _ _ => (pg_name (i := 7) sc.nd rfl (by first | exact Or.inl rfl | exact Or.inr rfl))) (fun _ _ _ _ _ => pts_nil) (fun _ _ _ _ _ => (z_call D_law_differing (hr.mono (by decide)) (by rfl) (pa_cons (pv 12) (pa_cons (pv 7) pa_nil))))) pa_nil)) (z_call D_law_next (hr.mono (by decide)) (by rfl) (pa_cons (pv 0) (pa_cons pe_int pa_nil)))) pa_nil)))))))))))))
abbrev s_Parts_init : Stmt := (inClass (topS 13) 0)
theorem sc_Parts_init : FnScope N_Parts_init ["self", "parts"] (defScope s_Parts_init) := ⟨rfl, rfl, rfl, by decide +kernel, rfl, by decide +kernel, by decide +kernel⟩
theorem ok_Parts_init (m_tuple : mg "tuple" = none) {f : Addr} {fd : FuncData} (F : Fun K "__init__" "Parts.__init__" s_Parts_init f fd) : FnOk P w K mg base CX0 1 f fd ["self", "parts"] (sp_Parts_init K c) := by
  have sc := sc_Parts_init
  refine F.ok sc_Parts_init (fun vs H Q E h => ((w_Parts_init (c := c)) vs H Q E h).1) (fun cdv A outer s H vs Q E hr h => ⟨T_Parts_init K, ?_, ((w_Parts_init (c := c)) vs H Q E h).2⟩)
  exact (pss_one (ps_fld (pv 0) (pe_callTy call_uTuple (by rfl) m_tuple (by decide +kernel) (pa_cons (pv 1) pa_nil)) rfl))
abbrev s_Part_init : Stmt := (inClass (topS 12) 0)
theorem sc_Part_init : FnScope N_Part_init ["self", "start", "centre", "radius"] (defScope s_Part_init) := ⟨rfl, rfl, rfl, by decide +kernel, rfl, by decide +kernel, by decide +kernel⟩
theorem ok_Part_init (m_tuple : mg "tuple" = none) {f : Addr} {fd : FuncData} (F : Fun K "__init__" "Part.__init__" s_Part_init f fd) : FnOk P w K mg base CX0 1 f fd ["self", "start", "centre", "radius"] (sp_Part_init K c) := by
  have sc := sc_Part_init
  refine F.ok sc_Part_init (fun vs H Q E h => ((w_Part_init (c := c)) vs H Q E h).1) (fun cdv A outer s H vs Q E hr h => ⟨T_Part_init K, ?_, ((w_Part_init (c := c)) vs H Q E h).2⟩)
  exact (pss_cons (ps_fld (pv 0) (pv 1) rfl)
      (pss_cons (ps_fld (pv 0) (pe_callTy call_uTuple (by rfl) m_tuple (by decide +kernel) (pa_cons (pv 2) pa_nil)) rfl)
      (pss_one (ps_fld (pv 0) (pv 3) rfl))))
abbrev s_Cell_init : Stmt := (inClass (topS 14) 0)
theorem sc_Cell_init : FnScope N_Cell_init ["self", "near", "rival"] (defScope s_Cell_init) := ⟨rfl, rfl, rfl, by decide +kernel, rfl, by decide +kernel, by decide +kernel⟩
theorem ok_Cell_init (m_tuple : mg "tuple" = none) {f : Addr} {fd : FuncData} (F : Fun K "__init__" "Cell.__init__" s_Cell_init f fd) : FnOk P w K mg base CX0 1 f fd ["self", "near", "rival"] (sp_Cell_init K c) := by
  have sc := sc_Cell_init
  refine F.ok sc_Cell_init (fun vs H Q E h => ((w_Cell_init (c := c)) vs H Q E h).1) (fun cdv A outer s H vs Q E hr h => ⟨T_Cell_init K, ?_, ((w_Cell_init (c := c)) vs H Q E h).2⟩)
  exact (pss_cons (ps_fld (pv 0) (pe_callTy call_uTuple (by rfl) m_tuple (by decide +kernel) (pa_cons (pv 1) pa_nil)) rfl)
      (pss_one (ps_fld (pv 0) (pe_callTy call_uTuple (by rfl) m_tuple (by decide +kernel) (pa_cons (pv 2) pa_nil)) rfl)))
abbrev s_Box_init : Stmt := (inClass (topS 15) 0)
theorem sc_Box_init : FnScope N_Box_init ["self", "low", "high"] (defScope s_Box_init) := ⟨rfl, rfl, rfl, by decide +kernel, rfl, by decide +kernel, by decide +kernel⟩
theorem ok_Box_init (m_tuple : mg "tuple" = none) {f : Addr} {fd : FuncData} (F : Fun K "__init__" "Box.__init__" s_Box_init f fd) : FnOk P w K mg base CX0 1 f fd ["self", "low", "high"] (sp_Box_init K c) := by
  have sc := sc_Box_init
  refine F.ok sc_Box_init (fun vs H Q E h => ((w_Box_init (c := c)) vs H Q E h).1) (fun cdv A outer s H vs Q E hr h => ⟨T_Box_init K, ?_, ((w_Box_init (c := c)) vs H Q E h).2⟩)
  exact (pss_cons (ps_fld (pv 0) (pe_callTy call_uTuple (by rfl) m_tuple (by decide +kernel) (pa_cons (pv 1) pa_nil)) rfl)
      (pss_one (ps_fld (pv 0) (pe_callTy call_uTuple (by rfl) m_tuple (by decide +kernel) (pa_cons (pv 2) pa_nil)) rfl)))
abbrev s_Norms_init : Stmt := (inClass (topS 16) 0)
theorem sc_Norms_init : FnScope N_Norms_init ["self", "low", "high"] (defScope s_Norms_init) := ⟨rfl, rfl, rfl, by decide +kernel, rfl, by decide +kernel, by decide +kernel⟩
theorem ok_Norms_init {f : Addr} {fd : FuncData} (F : Fun K "__init__" "Norms.__init__" s_Norms_init f fd) : FnOk P w K mg base CX0 1 f fd ["self", "low", "high"] (sp_Norms_init K c) := by
  have sc := sc_Norms_init
  refine F.ok sc_Norms_init (fun vs H Q E h => ((w_Norms_init (c := c)) vs H Q E h).1) (fun cdv A outer s H vs Q E hr h => ⟨T_Norms_init K, ?_, ((w_Norms_init (c := c)) vs H Q E h).2⟩)
  exact (pss_cons (ps_fld (pv 0) (pv 1) rfl)
      (pss_one (ps_fld (pv 0) (pv 2) rfl)))
abbrev s_Differ_init : Stmt := (inClass (topS 17) 0)
theorem sc_Differ_init : FnScope N_Differ_init ["self", "centre", "most"] (defScope s_Differ_init) := ⟨rfl, rfl, rfl, by decide +kernel, rfl, by decide +kernel, by decide +kernel⟩
theorem ok_Differ_init (m_tuple : mg "tuple" = none) {f : Addr} {fd : FuncData} (F : Fun K "__init__" "Differ.__init__" s_Differ_init f fd) : FnOk P w K mg base CX0 1 f fd ["self", "centre", "most"] (sp_Differ_init K c) := by
  have sc := sc_Differ_init
  refine F.ok sc_Differ_init (fun vs H Q E h => ((w_Differ_init (c := c)) vs H Q E h).1) (fun cdv A outer s H vs Q E hr h => ⟨T_Differ_init K, ?_, ((w_Differ_init (c := c)) vs H Q E h).2⟩)
  exact (pss_cons (ps_fld (pv 0) (pe_callTy call_uTuple (by rfl) m_tuple (by decide +kernel) (pa_cons (pv 1) pa_nil)) rfl)
      (pss_one (ps_fld (pv 0) (pv 2) rfl)))
abbrev s_law_made : Stmt := (topS 39)
theorem sc_law_made : FnScope N_law_made ["_law_fact"] (defScope s_law_made) := ⟨rfl, rfl, rfl, by decide +kernel, rfl, by decide +kernel, by decide +kernel⟩
theorem ok_law_made (C_Parts : ClsF K mg c "Parts" ["parts"]) (C_Part : ClsF K mg c "Part" ["start", "centre", "radius"]) (C_Cell : ClsF K mg c "Cell" ["near", "rival"]) (C_Box : ClsF K mg c "Box" ["low", "high"]) (C_Norms : ClsF K mg c "Norms" ["low", "high"]) (C_Differ : ClsF K mg c "Differ" ["centre", "most"]) (K_Parts_init : Mkr P w K mg base 1 (c.cls "Parts") ["self", "parts"] (sp_Parts_init K c)) (K_Part_init : Mkr P w K mg base 1 (c.cls "Part") ["self", "start", "centre", "radius"] (sp_Part_init K c)) (K_Cell_init : Mkr P w K mg base 1 (c.cls "Cell") ["self", "near", "rival"] (sp_Cell_init K c)) (K_Box_init : Mkr P w K mg base 1 (c.cls "Box") ["self", "low", "high"] (sp_Box_init K c)) (K_Norms_init : Mkr P w K mg base 1 (c.cls "Norms") ["self", "low", "high"] (sp_Norms_init K c)) (K_Differ_init : Mkr P w K mg base 1 (c.cls "Differ") ["self", "centre", "most"] (sp_Differ_init K c)) (m_list : mg "list" = none) {f : Addr} {fd : FuncData} (F : Fun K "_law_made" "_law_made" s_law_made f fd) : FnOk P w K mg base CX0 3 f fd ["_law_fact"] (sp_law_made K c) := by
  have sc := sc_law_made
  refine F.ok sc_law_made (fun vs H Q E h => ((w_law_made (c := c)) vs H Q E h).1) (fun cdv A outer s H vs Q E hr h => ⟨T_law_made K c, ?_, ((w_law_made (c := c)) vs H Q E h).2⟩)
  exact (pss_cons (ps_if (pt_cmpR (op_uEq hr.units) (pe_ix ix_uIx (pv 0) pe_int (fun _ _ => rfl)) pe_str (nomark _)) (pss_one (ps_ret (z_make C_Parts K_Parts_init (hr.mono (by decide)) (by rfl) (pa_cons (pe_lc (own := [("_law_start", 1), ("_law_centre", 2), ("_law_radius", 3)]) (g := (gTup K 3 (gCons (gName 1) (gCons (gName 2) (gCons (gName 3) gNil))))) (tt := tYes) rfl sc.nd (pi_sq (pe_ix ix_uIx (pv 0) pe_int (fun _ _ => rfl))) (blkOk_by (N := N_law_made) (sc := defScope s_law_made) (by decide +kernel)) (fun _ _ _ _ _ => (pg_tup rfl (pgs_cons (pg_name (i := 1) sc.nd rfl (by first | exact Or.inl rfl | exact Or.inr rfl)) (pgs_cons (pg_name (i := 2) sc.nd rfl (by first | exact Or.inl rfl | exact Or.inr rfl)) (pgs_cons (pg_name (i := 3) sc.nd rfl (by first | exact Or.inl rfl | exact Or.inr rfl)) pgs_nil))))) (fun _ _ _ _ _ => pts_nil) (fun _ _ _ _ _ => (z_make C_Part K_Part_init (hr.mono (by decide)) (by rfl) (pa_cons (pv 1) (pa_cons (pe_callTy call_uList (by rfl) m_list (by decide +kernel) (pa_cons (pv 2) pa_nil)) (pa_cons (pv 3) pa_nil)))))) pa_nil)))) pss_nil)
      (pss_cons (ps_if (pt_cmpR (op_uEq hr.units) (pe_ix ix_uIx (pv 0) pe_int (fun _ _ => rfl)) pe_str (nomark _)) (pss_one (ps_ret (z_make C_Cell K_Cell_init (hr.mono (by decide)) (by rfl) (pa_cons (pe_callTy call_uList (by rfl) m_list (by decide +kernel) (pa_cons (pe_ix ix_uIx (pv 0) pe_int (fun _ _ => rfl)) pa_nil)) (pa_cons (pe_callTy call_uList (by rfl) m_list (by decide +kernel) (pa_cons (pe_ix ix_uIx (pv 0) pe_int (fun _ _ => rfl)) pa_nil)) pa_nil))))) pss_nil)
      (pss_cons (ps_if (pt_cmpR (op_uEq hr.units) (pe_ix ix_uIx (pv 0) pe_int (fun _ _ => rfl)) pe_str (nomark _)) (pss_one (ps_ret (z_make C_Box K_Box_init (hr.mono (by decide)) (by rfl) (pa_cons (pe_callTy call_uList (by rfl) m_list (by decide +kernel) (pa_cons (pe_ix ix_uIx (pv 0) pe_int (fun _ _ => rfl)) pa_nil)) (pa_cons (pe_callTy call_uList (by rfl) m_list (by decide +kernel) (pa_cons (pe_ix ix_uIx (pv 0) pe_int (fun _ _ => rfl)) pa_nil)) pa_nil))))) pss_nil)
      (pss_cons (ps_if (pt_cmpR (op_uEq hr.units) (pe_ix ix_uIx (pv 0) pe_int (fun _ _ => rfl)) pe_str (nomark _)) (pss_one (ps_ret (z_make C_Norms K_Norms_init (hr.mono (by decide)) (by rfl) (pa_cons (pe_ix ix_uIx (pv 0) pe_int (fun _ _ => rfl)) (pa_cons (pe_ix ix_uIx (pv 0) pe_int (fun _ _ => rfl)) pa_nil))))) pss_nil)
      (pss_cons (ps_if (pt_cmpR (op_uEq hr.units) (pe_ix ix_uIx (pv 0) pe_int (fun _ _ => rfl)) pe_str (nomark _)) (pss_one (ps_ret (z_make C_Differ K_Differ_init (hr.mono (by decide)) (by rfl) (pa_cons (pe_callTy call_uList (by rfl) m_list (by decide +kernel) (pa_cons (pe_ix ix_uIx (pv 0) pe_int (fun _ _ => rfl)) pa_nil)) (pa_cons (pe_ix ix_uIx (pv 0) pe_int (fun _ _ => rfl)) pa_nil))))) pss_nil)
      (pss_cons (ps_if (pt_cmpR (op_uEq hr.units) (pe_ix ix_uIx (pv 0) pe_int (fun _ _ => rfl)) pe_str (nomark _)) (pss_one ps_never) pss_nil)
      (pss_cons (ps_if (pt_cmpR (op_uEq hr.units) (pe_ix ix_uIx (pv 0) pe_int (fun _ _ => rfl)) pe_str (nomark _)) (pss_one ps_never) pss_nil)
      (pss_cons (ps_if (pt_cmpR (op_uEq hr.units) (pe_ix ix_uIx (pv 0) pe_int (fun _ _ => rfl)) pe_str (nomark _)) (pss_one ps_never) pss_nil)
      (pss_one ps_never)))))))))
abbrev s_Record_init : Stmt := (inClass (topS 21) 0)
theorem sc_Record_init : FnScope N_Record_init ["self", "name", "vector", "fields", "words"] (defScope s_Record_init) := ⟨rfl, rfl, rfl, by decide +kernel, rfl, by decide +kernel, by decide +kernel⟩
theorem ok_Record_init (m_tuple : mg "tuple" = none) {f : Addr} {fd : FuncData} (F : Fun K "__init__" "Record.__init__" s_Record_init f fd) : FnOk P w K mg base CX0 1 f fd ["self", "name", "vector", "fields", "words"] (sp_Record_init K c) := by
  have sc := sc_Record_init
  refine F.ok sc_Record_init (fun vs H Q E h => ((w_Record_init (c := c)) vs H Q E h).1) (fun cdv A outer s H vs Q E hr h => ⟨T_Record_init K, ?_, ((w_Record_init (c := c)) vs H Q E h).2⟩)
  exact (pss_cons (ps_fld (pv 0) (pv 1) rfl)
      (pss_cons (ps_fld (pv 0) (pe_callTy call_uTuple (by rfl) m_tuple (by decide +kernel) (pa_cons (pv 2) pa_nil)) rfl)
      (pss_cons (ps_fld (pv 0) (pe_callTy call_uTuple (by rfl) m_tuple (by decide +kernel) (pa_cons (pe_lc (own := [("field", 5), ("worth", 6)]) (g := (gTup K 2 (gCons (gName 5) (gCons (gName 6) gNil)))) (tt := tYes) rfl sc.nd (pi_sq (pv 3)) (blkOk_by (N := N_Record_init) (sc := defScope s_Record_init) (by decide +kernel)) (fun _ _ _ _ _ => (pg_tup rfl (pgs_cons (pg_name (i := 5) sc.nd rfl (by first | exact Or.inl rfl | exact Or.inr rfl)) (pgs_cons (pg_name (i := 6) sc.nd rfl (by first | exact Or.inl rfl | exact Or.inr rfl)) pgs_nil)))) (fun _ _ _ _ _ => pts_nil) (fun _ _ _ _ _ => (pe_tup (pa_cons (pv 5) (pa_cons (pv 6) pa_nil))))) pa_nil)) rfl)
      (pss_one (ps_fld (pv 0) (pe_callTy call_uTuple (by rfl) m_tuple (by decide +kernel) (pa_cons (pe_lc (own := [("word", 7), ("count", 8)]) (g := (gTup K 2 (gCons (gName 7) (gCons (gName 8) gNil)))) (tt := tYes) rfl sc.nd (pi_sq (pv 4)) (blkOk_by (N := N_Record_init) (sc := defScope s_Record_init) (by decide +kernel)) (fun _ _ _ _ _ => (pg_tup rfl (pgs_cons (pg_name (i := 7) sc.nd rfl (by first | exact Or.inl rfl | exact Or.inr rfl)) (pgs_cons (pg_name (i := 8) sc.nd rfl (by first | exact Or.inl rfl | exact Or.inr rfl)) pgs_nil)))) (fun _ _ _ _ _ => pts_nil) (fun _ _ _ _ _ => (pe_tup (pa_cons (pv 7) (pa_cons (pv 8) pa_nil))))) pa_nil)) rfl)))))
abbrev s_Part_after : Stmt := (inClass (topS 12) 1)
theorem sc_Part_after : FnScope N_Part_after ["self"] (defScope s_Part_after) := ⟨rfl, rfl, rfl, by decide +kernel, rfl, by decide +kernel, by decide +kernel⟩
theorem ok_Part_after (m_len : mg "len" = none) {f : Addr} {fd : FuncData} (F : Fun K "after" "Part.after" s_Part_after f fd) : FnOk P w K mg base CX0 1 f fd ["self"] (sp_Part_after K c) := by
  have sc := sc_Part_after
  refine F.ok sc_Part_after (fun vs H Q E h => ((w_Part_after (c := c)) vs H Q E h).1) (fun cdv A outer s H vs Q E hr h => ⟨T_Part_after K, ?_, ((w_Part_after (c := c)) vs H Q E h).2⟩)
  exact (pss_one (ps_ret (pe_op op_uAdd (pe_fld (pv 0) rfl) (pe_callB call_uLen (by rfl) m_len (by decide +kernel) (pa_cons (pe_fld (pv 0) rfl) pa_nil)))))
abbrev s_Parts_fits : Stmt := (inClass (topS 13) 1)
theorem sc_Parts_fits : FnScope N_Parts_fits ["self", "q"] (defScope s_Parts_fits) := ⟨rfl, rfl, rfl, by decide +kernel, rfl, by decide +kernel, by decide +kernel⟩
theorem ok_Parts_fits (C_Part : ClsF K mg c "Part" ["start", "centre", "radius"]) (P_Part_after : Prp P w K mg base 1 (c.cls "Part") "after" ["self"] (sp_Part_after K c)) (m_len : mg "len" = none) {f : Addr} {fd : FuncData} (F : Fun K "fits" "Parts.fits" s_Parts_fits f fd) : FnOk P w K mg base CX0 3 f fd ["self", "q"] (sp_Parts_fits K c) := by
  have sc := sc_Parts_fits
  refine F.ok sc_Parts_fits (fun vs H Q E h => ((w_Parts_fits (c := c)) vs H Q E h).1) (fun cdv A outer s H vs Q E hr h => ⟨T_Parts_fits K c, ?_, ((w_Parts_fits (c := c)) vs H Q E h).2⟩)
  exact (pss_cons (ps_for PassesOwn.never rfl (pi_sq (pe_fld (pv 0) rfl)) (pg_name (i := 2) sc.nd rfl (by first | exact Or.inl rfl | exact Or.inr rfl)) (pss_one (ps_if (PW.pt (pw_or (pt_cmpR (op_uLt hr.units) (pe_fld (pv 2) rfl) pe_int (nomark _)) (pw_or1 (pt_cmpR op_uGt (z_prop (pv 2) C_Part P_Part_after (hr.mono (by decide)) rfl) (pe_callB call_uLen (by rfl) m_len (by decide +kernel) (pa_cons (pv 1) pa_nil)) (nomark _))))) (pss_one (ps_ret pe_bl)) pss_nil)))
      (pss_one (ps_ret pe_bl)))
abbrev s_Part_cut : Stmt := (inClass (topS 12) 2)
theorem sc_Part_cut : FnScope N_Part_cut ["self", "vector"] (defScope s_Part_cut) := ⟨rfl, rfl, rfl, by decide +kernel, rfl, by decide +kernel, by decide +kernel⟩
theorem ok_Part_cut (C_Part : ClsF K mg c "Part" ["start", "centre", "radius"]) (P_Part_after : Prp P w K mg base 1 (c.cls "Part") "after" ["self"] (sp_Part_after K c)) {f : Addr} {fd : FuncData} (F : Fun K "cut" "Part.cut" s_Part_cut f fd) : FnOk P w K mg base CX0 3 f fd ["self", "vector"] (sp_Part_cut K c) := by
  have sc := sc_Part_cut
  refine F.ok sc_Part_cut (fun vs H Q E h => ((w_Part_cut (c := c)) vs H Q E h).1) (fun cdv A outer s H vs Q E hr h => ⟨T_Part_cut K c, ?_, ((w_Part_cut (c := c)) vs H Q E h).2⟩)
  exact (pss_one (ps_ret (pe_slice sl_uSl (pv 1) (po_some (pe_fld (pv 0) rfl)) (po_some (z_prop (pv 0) C_Part P_Part_after (hr.mono (by decide)) rfl)))))
abbrev s_distance : Stmt := (topS 4)
theorem sc_distance : FnScope N_distance ["a", "b"] (defScope s_distance) := ⟨rfl, rfl, rfl, by decide +kernel, rfl, by decide +kernel, by decide +kernel⟩
theorem ok_distance (m_zip : mg "zip" = none) {f : Addr} {fd : FuncData} (F : Fun K "distance" "distance" s_distance f fd) : FnOk P w K mg base CX0 1 f fd ["a", "b"] (sp_distance K c) := by
  have sc := sc_distance
  refine F.ok sc_distance (fun vs H Q E h => ((w_distance (c := c)) vs H Q E h).1) (fun cdv A outer s H vs Q E hr h => ⟨T_distance K, ?_, ((w_distance (c := c)) vs H Q E h).2⟩)
  exact (pss_cons (ps_set (i := 2) sc.nd rfl (by first | exact Or.inl rfl | exact Or.inr rfl) pe_int)
      (pss_cons (ps_for PassesOwn.never rfl (pi_zip2 (by rfl) m_zip (pa_cons (pv 0) (pa_cons (pv 1) pa_nil))) (pg_tup rfl (pgs_cons (pg_name (i := 3) sc.nd rfl (by first | exact Or.inl rfl | exact Or.inr rfl)) (pgs_cons (pg_name (i := 4) sc.nd rfl (by first | exact Or.inl rfl | exact Or.inr rfl)) pgs_nil))) (pss_one (ps_set (i := 2) sc.nd rfl (by first | exact Or.inl rfl | exact Or.inr rfl) (pe_op op_uAdd (pv 2) (pe_op op_uMul (pe_op op_uSub (pv 3) (pv 4)) (pe_op op_uSub (pv 3) (pv 4)))))))
      (pss_one (ps_ret (pv 2)))))
abbrev s_Parts_holds : Stmt := (inClass (topS 13) 2)
theorem sc_Parts_holds : FnScope N_Parts_holds ["self", "record"] (defScope s_Parts_holds) := ⟨rfl, rfl, rfl, by decide +kernel, rfl, by decide +kernel, by decide +kernel⟩
theorem ok_Parts_holds (C_Parts : ClsF K mg c "Parts" ["parts"]) (C_Part : ClsF K mg c "Part" ["start", "centre", "radius"]) (M_Parts_fits : Mth P w K mg base 3 (c.cls "Parts") "fits" ["self", "q"] (sp_Parts_fits K c)) (M_Part_cut : Mth P w K mg base 3 (c.cls "Part") "cut" ["self", "vector"] (sp_Part_cut K c)) (D_distance : Dfn P w K mg base 1 "distance" ["a", "b"] (sp_distance K c)) {f : Addr} {fd : FuncData} (F : Fun K "holds" "Parts.holds" s_Parts_holds f fd) : FnOk P w K mg base CX0 4 f fd ["self", "record"] (sp_Parts_holds K c) := by
  have sc := sc_Parts_holds
  refine F.ok sc_Parts_holds (fun vs H Q E h => ((w_Parts_holds (c := c)) vs H Q E h).1) (fun cdv A outer s H vs Q E hr h => ⟨T_Parts_holds K c, ?_, ((w_Parts_holds (c := c)) vs H Q E h).2⟩)
  exact (pss_cons (ps_if (pt_not (pt_u (z_meth (pv 0) C_Parts M_Parts_fits (hr.mono (by decide)) (pa_cons (pe_fld (pv 1) rfl) pa_nil)))) (pss_one (ps_ret pe_bl)) pss_nil)
      (pss_cons (ps_for PassesOwn.never rfl (pi_sq (pe_fld (pv 0) rfl)) (pg_name (i := 2) sc.nd rfl (by first | exact Or.inl rfl | exact Or.inr rfl)) (pss_one (ps_if (pt_cmpR op_uGt (z_call D_distance (hr.mono (by decide)) (by rfl) (pa_cons (pe_fld (pv 2) rfl) (pa_cons (z_meth (pv 2) C_Part M_Part_cut (hr.mono (by decide)) (pa_cons (pe_fld (pv 1) rfl) pa_nil)) pa_nil))) (pe_fld (pv 2) rfl) (nomark _)) (pss_one (ps_ret pe_bl)) pss_nil)))
      (pss_one (ps_ret pe_bl))))
abbrev s_Cell_fits : Stmt := (inClass (topS 14) 1)
theorem sc_Cell_fits : FnScope N_Cell_fits ["self", "q"] (defScope s_Cell_fits) := ⟨rfl, rfl, rfl, by decide +kernel, rfl, by decide +kernel, by decide +kernel⟩
theorem ok_Cell_fits (m_len : mg "len" = none) {f : Addr} {fd : FuncData} (F : Fun K "fits" "Cell.fits" s_Cell_fits f fd) : FnOk P w K mg base CX0 1 f fd ["self", "q"] (sp_Cell_fits K c) := by
  have sc := sc_Cell_fits
  refine F.ok sc_Cell_fits (fun vs H Q E h => ((w_Cell_fits (c := c)) vs H Q E h).1) (fun cdv A outer s H vs Q E hr h => ⟨T_Cell_fits K, ?_, ((w_Cell_fits (c := c)) vs H Q E h).2⟩)
  exact (pss_one (ps_ret (pe_and (pe_cmpR (op_uEq hr.units) (pe_callB call_uLen (by rfl) m_len (by decide +kernel) (pa_cons (pe_fld (pv 0) rfl) pa_nil)) (pe_callB call_uLen (by rfl) m_len (by decide +kernel) (pa_cons (pv 1) pa_nil)) (nomark _)) (pe_one (pe_cmpR (op_uEq hr.units) (pe_callB call_uLen (by rfl) m_len (by decide +kernel) (pa_cons (pe_fld (pv 0) rfl) pa_nil)) (pe_callB call_uLen (by rfl) m_len (by decide +kernel) (pa_cons (pv 1) pa_nil)) (nomark _))))))
abbrev s_Cell_holds : Stmt := (inClass (topS 14) 2)
theorem sc_Cell_holds : FnScope N_Cell_holds ["self", "record"] (defScope s_Cell_holds) := ⟨rfl, rfl, rfl, by decide +kernel, rfl, by decide +kernel, by decide +kernel⟩
theorem ok_Cell_holds (C_Cell : ClsF K mg c "Cell" ["near", "rival"]) (M_Cell_fits : Mth P w K mg base 1 (c.cls "Cell") "fits" ["self", "q"] (sp_Cell_fits K c)) (D_distance : Dfn P w K mg base 1 "distance" ["a", "b"] (sp_distance K c)) {f : Addr} {fd : FuncData} (F : Fun K "holds" "Cell.holds" s_Cell_holds f fd) : FnOk P w K mg base CX0 2 f fd ["self", "record"] (sp_Cell_holds K c) := by
  have sc := sc_Cell_holds
  refine F.ok sc_Cell_holds (fun vs H Q E h => ((w_Cell_holds (c := c)) vs H Q E h).1) (fun cdv A outer s H vs Q E hr h => ⟨T_Cell_holds K c, ?_, ((w_Cell_holds (c := c)) vs H Q E h).2⟩)
  exact (pss_cons (ps_set (i := 2) sc.nd rfl (by first | exact Or.inl rfl | exact Or.inr rfl) (pe_fld (pv 1) rfl))
      (pss_one (ps_ret (pe_and (z_meth (pv 0) C_Cell M_Cell_fits (hr.mono (by decide)) (pa_cons (pv 2) pa_nil)) (pe_one (pe_cmpR op_uLe (z_call D_distance (hr.mono (by decide)) (by rfl) (pa_cons (pv 2) (pa_cons (pe_fld (pv 0) rfl) pa_nil))) (z_call D_distance (hr.mono (by decide)) (by rfl) (pa_cons (pv 2) (pa_cons (pe_fld (pv 0) rfl) pa_nil))) (nomark _)))))))
abbrev s_Box_fits : Stmt := (inClass (topS 15) 1)
theorem sc_Box_fits : FnScope N_Box_fits ["self", "q"] (defScope s_Box_fits) := ⟨rfl, rfl, rfl, by decide +kernel, rfl, by decide +kernel, by decide +kernel⟩
theorem ok_Box_fits (m_len : mg "len" = none) {f : Addr} {fd : FuncData} (F : Fun K "fits" "Box.fits" s_Box_fits f fd) : FnOk P w K mg base CX0 1 f fd ["self", "q"] (sp_Box_fits K c) := by
  have sc := sc_Box_fits
  refine F.ok sc_Box_fits (fun vs H Q E h => ((w_Box_fits (c := c)) vs H Q E h).1) (fun cdv A outer s H vs Q E hr h => ⟨T_Box_fits K, ?_, ((w_Box_fits (c := c)) vs H Q E h).2⟩)
  exact (pss_one (ps_ret (pe_and (pe_cmpR (op_uEq hr.units) (pe_callB call_uLen (by rfl) m_len (by decide +kernel) (pa_cons (pe_fld (pv 0) rfl) pa_nil)) (pe_callB call_uLen (by rfl) m_len (by decide +kernel) (pa_cons (pv 1) pa_nil)) (nomark _)) (pe_one (pe_cmpR (op_uEq hr.units) (pe_callB call_uLen (by rfl) m_len (by decide +kernel) (pa_cons (pe_fld (pv 0) rfl) pa_nil)) (pe_callB call_uLen (by rfl) m_len (by decide +kernel) (pa_cons (pv 1) pa_nil)) (nomark _))))))
abbrev s_Box_holds : Stmt := (inClass (topS 15) 2)
theorem sc_Box_holds : FnScope N_Box_holds ["self", "record"] (defScope s_Box_holds) := ⟨rfl, rfl, rfl, by decide +kernel, rfl, by decide +kernel, by decide +kernel⟩
theorem ok_Box_holds (C_Box : ClsF K mg c "Box" ["low", "high"]) (M_Box_fits : Mth P w K mg base 1 (c.cls "Box") "fits" ["self", "q"] (sp_Box_fits K c)) (m_zip : mg "zip" = none) {f : Addr} {fd : FuncData} (F : Fun K "holds" "Box.holds" s_Box_holds f fd) : FnOk P w K mg base CX0 2 f fd ["self", "record"] (sp_Box_holds K c) := by
  have sc := sc_Box_holds
  refine F.ok sc_Box_holds (fun vs H Q E h => ((w_Box_holds (c := c)) vs H Q E h).1) (fun cdv A outer s H vs Q E hr h => ⟨T_Box_holds K c, ?_, ((w_Box_holds (c := c)) vs H Q E h).2⟩)
  exact (pss_cons (ps_if (pt_not (pt_u (z_meth (pv 0) C_Box M_Box_fits (hr.mono (by decide)) (pa_cons (pe_fld (pv 1) rfl) pa_nil)))) (pss_one (ps_ret pe_bl)) pss_nil)
      (pss_cons (ps_for PassesOwn.never rfl (pi_zip3 (by rfl) m_zip (pa_cons (pe_fld (pv 1) rfl) (pa_cons (pe_fld (pv 0) rfl) (pa_cons (pe_fld (pv 0) rfl) pa_nil)))) (pg_tup rfl (pgs_cons (pg_name (i := 2) sc.nd rfl (by first | exact Or.inl rfl | exact Or.inr rfl)) (pgs_cons (pg_name (i := 3) sc.nd rfl (by first | exact Or.inl rfl | exact Or.inr rfl)) (pgs_cons (pg_name (i := 4) sc.nd rfl (by first | exact Or.inl rfl | exact Or.inr rfl)) pgs_nil)))) (pss_one (ps_if (PW.pt (pw_or (pt_cmpR (op_uLt hr.units) (pv 2) (pv 3) (nomark _)) (pw_or1 (pt_cmpR op_uGt (pv 2) (pv 4) (nomark _))))) (pss_one (ps_ret pe_bl)) pss_nil)))
      (pss_one (ps_ret pe_bl))))
abbrev s_inner : Stmt := (topS 3)
theorem sc_inner : FnScope N_inner ["a", "b"] (defScope s_inner) := ⟨rfl, rfl, rfl, by decide +kernel, rfl, by decide +kernel, by decide +kernel⟩
theorem ok_inner (m_zip : mg "zip" = none) {f : Addr} {fd : FuncData} (F : Fun K "inner" "inner" s_inner f fd) : FnOk P w K mg base CX0 1 f fd ["a", "b"] (sp_inner K c) := by
  have sc := sc_inner
  refine F.ok sc_inner (fun vs H Q E h => ((w_inner (c := c)) vs H Q E h).1) (fun cdv A outer s H vs Q E hr h => ⟨T_inner K, ?_, ((w_inner (c := c)) vs H Q E h).2⟩)
  exact (pss_cons (ps_set (i := 2) sc.nd rfl (by first | exact Or.inl rfl | exact Or.inr rfl) pe_int)
      (pss_cons (ps_for PassesOwn.never rfl (pi_zip2 (by rfl) m_zip (pa_cons (pv 0) (pa_cons (pv 1) pa_nil))) (pg_tup rfl (pgs_cons (pg_name (i := 3) sc.nd rfl (by first | exact Or.inl rfl | exact Or.inr rfl)) (pgs_cons (pg_name (i := 4) sc.nd rfl (by first | exact Or.inl rfl | exact Or.inr rfl)) pgs_nil))) (pss_one (ps_set (i := 2) sc.nd rfl (by first | exact Or.inl rfl | exact Or.inr rfl) (pe_op op_uAdd (pv 2) (pe_op op_uMul (pv 3) (pv 4))))))
      (pss_one (ps_ret (pv 2)))))
abbrev s_norm : Stmt := (topS 6)
theorem sc_norm : FnScope N_norm ["a"] (defScope s_norm) := ⟨rfl, rfl, rfl, by decide +kernel, rfl, by decide +kernel, by decide +kernel⟩
theorem ok_norm (D_inner : Dfn P w K mg base 1 "inner" ["a", "b"] (sp_inner K c)) {f : Addr} {fd : FuncData} (F : Fun K "norm" "norm" s_norm f fd) : FnOk P w K mg base CX0 2 f fd ["a"] (sp_norm K c) := by
  have sc := sc_norm
  refine F.ok sc_norm (fun vs H Q E h => ((w_norm (c := c)) vs H Q E h).1) (fun cdv A outer s H vs Q E hr h => ⟨T_norm K c, ?_, ((w_norm (c := c)) vs H Q E h).2⟩)
  exact (pss_one (ps_ret (z_call D_inner (hr.mono (by decide)) (by rfl) (pa_cons (pv 0) (pa_cons (pv 0) pa_nil)))))
abbrev s_Norms_holds : Stmt := (inClass (topS 16) 1)
theorem sc_Norms_holds : FnScope N_Norms_holds ["self", "record"] (defScope s_Norms_holds) := ⟨rfl, rfl, rfl, by decide +kernel, rfl, by decide +kernel, by decide +kernel⟩
theorem ok_Norms_holds (D_norm : Dfn P w K mg base 2 "norm" ["a"] (sp_norm K c)) {f : Addr} {fd : FuncData} (F : Fun K "holds" "Norms.holds" s_Norms_holds f fd) : FnOk P w K mg base CX0 3 f fd ["self", "record"] (sp_Norms_holds K c) := by
  have sc := sc_Norms_holds
  refine F.ok sc_Norms_holds (fun vs H Q E h => ((w_Norms_holds (c := c)) vs H Q E h).1) (fun cdv A outer s H vs Q E hr h => ⟨T_Norms_holds K c, ?_, ((w_Norms_holds (c := c)) vs H Q E h).2⟩)
  exact (pss_one (ps_ret (pe_chain op_uLe op_uLe (pe_fld (pv 0) rfl) (z_call D_norm (hr.mono (by decide)) (by rfl) (pa_cons (pe_fld (pv 1) rfl) pa_nil)) (pe_fld (pv 0) rfl))))
abbrev s_differing : Stmt := (topS 5)
theorem sc_differing : FnScope N_differing ["a", "b"] (defScope s_differing) := ⟨rfl, rfl, rfl, by decide +kernel, rfl, by decide +kernel, by decide +kernel⟩
theorem ok_differing (m_zip : mg "zip" = none) {f : Addr} {fd : FuncData} (F : Fun K "differing" "differing" s_differing f fd) : FnOk P w K mg base CX0 1 f fd ["a", "b"] (sp_differing K c) := by
  have sc := sc_differing
  refine F.ok sc_differing (fun vs H Q E h => ((w_differing (c := c)) vs H Q E h).1) (fun cdv A outer s H vs Q E hr h => ⟨T_differing K, ?_, ((w_differing (c := c)) vs H Q E h).2⟩)
  exact (pss_cons (ps_set (i := 2) sc.nd rfl (by first | exact Or.inl rfl | exact Or.inr rfl) pe_int)
      (pss_cons (ps_for PassesOwn.never rfl (pi_zip2 (by rfl) m_zip (pa_cons (pv 0) (pa_cons (pv 1) pa_nil))) (pg_tup rfl (pgs_cons (pg_name (i := 3) sc.nd rfl (by first | exact Or.inl rfl | exact Or.inr rfl)) (pgs_cons (pg_name (i := 4) sc.nd rfl (by first | exact Or.inl rfl | exact Or.inr rfl)) pgs_nil))) (pss_one (ps_if (pt_cmpR (op_uNe hr.units) (pv 3) (pv 4) (nomark _)) (pss_one (ps_set (i := 2) sc.nd rfl (by first | exact Or.inl rfl | exact Or.inr rfl) (pe_op op_uAdd (pv 2) pe_int))) pss_nil)))
      (pss_one (ps_ret (pv 2)))))
abbrev s_Differ_holds : Stmt := (inClass (topS 17) 1)
theorem sc_Differ_holds : FnScope N_Differ_holds ["self", "record"] (defScope s_Differ_holds) := ⟨rfl, rfl, rfl, by decide +kernel, rfl, by decide +kernel, by decide +kernel⟩
theorem ok_Differ_holds (D_differing : Dfn P w K mg base 1 "differing" ["a", "b"] (sp_differing K c)) (m_len : mg "len" = none) {f : Addr} {fd : FuncData} (F : Fun K "holds" "Differ.holds" s_Differ_holds f fd) : FnOk P w K mg base CX0 2 f fd ["self", "record"] (sp_Differ_holds K c) := by
  have sc := sc_Differ_holds
  refine F.ok sc_Differ_holds (fun vs H Q E h => ((w_Differ_holds (c := c)) vs H Q E h).1) (fun cdv A outer s H vs Q E hr h => ⟨T_Differ_holds K c, ?_, ((w_Differ_holds (c := c)) vs H Q E h).2⟩)
  exact (pss_cons (ps_set (i := 2) sc.nd rfl (by first | exact Or.inl rfl | exact Or.inr rfl) (pe_cmpR (op_uEq hr.units) (pe_callB call_uLen (by rfl) m_len (by decide +kernel) (pa_cons (pe_fld (pv 0) rfl) pa_nil)) (pe_callB call_uLen (by rfl) m_len (by decide +kernel) (pa_cons (pe_fld (pv 1) rfl) pa_nil)) (nomark _)))
      (pss_one (ps_ret (pe_and (pv 2) (pe_one (pe_cmpR op_uLe (z_call D_differing (hr.mono (by decide)) (by rfl) (pa_cons (pe_fld (pv 0) rfl) (pa_cons (pe_fld (pv 1) rfl) pa_nil))) (pe_fld (pv 0) rfl) (nomark _)))))))
abbrev s_Parts_apart : Stmt := (inClass (topS 13) 3)
theorem sc_Parts_apart : FnScope N_Parts_apart ["self"] (defScope s_Parts_apart) := ⟨rfl, rfl, rfl, by decide +kernel, rfl, by decide +kernel, by decide +kernel⟩
theorem ok_Parts_apart (C_Part : ClsF K mg c "Part" ["start", "centre", "radius"]) (P_Part_after : Prp P w K mg base 1 (c.cls "Part") "after" ["self"] (sp_Part_after K c)) {f : Addr} {fd : FuncData} (F : Fun K "apart" "Parts.apart" s_Parts_apart f fd) : FnOk P w K mg base CX0 3 f fd ["self"] (sp_Parts_apart K c) := by
  have sc := sc_Parts_apart
  refine F.ok sc_Parts_apart (fun vs H Q E h => ((w_Parts_apart (c := c)) vs H Q E h).1) (fun cdv A outer s H vs Q E hr h => ⟨T_Parts_apart K c, ?_, ((w_Parts_apart (c := c)) vs H Q E h).2⟩)
  exact (pss_cons (ps_set (i := 1) sc.nd rfl (by first | exact Or.inl rfl | exact Or.inr rfl) pe_int)
      (pss_cons (ps_for PassesOwn.never rfl (pi_sq (pe_fld (pv 0) rfl)) (pg_name (i := 2) sc.nd rfl (by first | exact Or.inl rfl | exact Or.inr rfl)) (pss_cons (ps_if (pt_cmpR (op_uLt hr.units) (pe_fld (pv 2) rfl) (pv 1) (nomark _)) (pss_one (ps_ret pe_bl)) pss_nil)
      (pss_one (ps_set (i := 1) sc.nd rfl (by first | exact Or.inl rfl | exact Or.inr rfl) (z_prop (pv 2) C_Part P_Part_after (hr.mono (by decide)) rfl)))))
      (pss_one (ps_ret pe_bl))))
abbrev s_root : Stmt := (topS 2)
theorem sc_root : FnScope N_root ["number"] (defScope s_root) := ⟨rfl, rfl, rfl, by decide +kernel, rfl, by decide +kernel, by decide +kernel⟩
theorem ok_root {f : Addr} {fd : FuncData} (F : Fun K "root" "root" s_root f fd) : FnOk P w K mg base CX0 1 f fd ["number"] (sp_root K) := by
  have sc := sc_root
  refine F.ok sc_root (fun vs H Q E h => ((w_root) vs H Q E h).1) (fun cdv A outer s H vs Q E hr h => ⟨T_root K, ?_, ((w_root) vs H Q E h).2⟩)
  exact (pss_cons (ps_set (i := 1) sc.nd rfl (by first | exact Or.inl rfl | exact Or.inr rfl) pe_int)
      (pss_cons (ps_set (i := 2) sc.nd rfl (by first | exact Or.inl rfl | exact Or.inr rfl) pe_int)
      (pss_cons (ps_while PassesOwn.never (pt_cmpR op_uLe (pe_op op_uMul (pv 2) (pv 2)) (pv 0) (nomark _)) (pss_one (ps_set (i := 2) sc.nd rfl (by first | exact Or.inl rfl | exact Or.inr rfl) (pe_op op_uMul (pv 2) pe_int))))
      (pss_cons (ps_while PassesOwn.never (pt_cmpR op_uGt (pe_op op_uSub (pv 2) (pv 1)) pe_int (nomark _)) (pss_cons (ps_set (i := 3) sc.nd rfl (by first | exact Or.inl rfl | exact Or.inr rfl) (pe_op op_uDiv (pe_op op_uAdd (pv 1) (pv 2)) pe_int))
      (pss_one (ps_if (pt_cmpR op_uLe (pe_op op_uMul (pv 3) (pv 3)) (pv 0) (nomark _)) (pss_one (ps_set (i := 1) sc.nd rfl (by first | exact Or.inl rfl | exact Or.inr rfl) (pv 3))) (pss_one (ps_set (i := 2) sc.nd rfl (by first | exact Or.inl rfl | exact Or.inr rfl) (pv 3)))))))
      (pss_one (ps_ret (pv 1)))))))
abbrev s_gap : Stmt := (topS 7)
theorem sc_gap : FnScope N_gap ["far", "near"] (defScope s_gap) := ⟨rfl, rfl, rfl, by decide +kernel, rfl, by decide +kernel, by decide +kernel⟩
theorem ok_gap (D_root : Dfn P w K mg base 1 "root" ["number"] (sp_root K)) {f : Addr} {fd : FuncData} (F : Fun K "gap" "gap" s_gap f fd) : FnOk P w K mg base CX0 2 f fd ["far", "near"] (sp_gap K) := by
  have sc := sc_gap
  refine F.ok sc_gap (fun vs H Q E h => ((w_gap) vs H Q E h).1) (fun cdv A outer s H vs Q E hr h => ⟨T_gap K, ?_, ((w_gap) vs H Q E h).2⟩)
  exact (pss_cons (ps_if (pt_cmpR op_uGe (pv 1) (pv 0) (nomark _)) (pss_one (ps_ret pe_int)) pss_nil)
      (pss_one (ps_ret (pe_op op_uSub (pe_op op_uAdd (pv 0) (pv 1)) (z_call D_root (hr.mono (by decide)) (by rfl) (pa_cons (pe_op op_uMul (pe_op op_uMul pe_int (pv 0)) (pv 1)) pa_nil))))))
abbrev s_Parts_least_distance : Stmt := (inClass (topS 13) 5)
theorem sc_Parts_least_distance : FnScope N_Parts_least_distance ["self", "q"] (defScope s_Parts_least_distance) := ⟨rfl, rfl, rfl, by decide +kernel, rfl, by decide +kernel, by decide +kernel⟩
theorem ok_Parts_least_distance (C_Parts : ClsF K mg c "Parts" ["parts"]) (C_Part : ClsF K mg c "Part" ["start", "centre", "radius"]) (M_Parts_fits : Mth P w K mg base 3 (c.cls "Parts") "fits" ["self", "q"] (sp_Parts_fits K c)) (M_Parts_apart : Mth P w K mg base 3 (c.cls "Parts") "apart" ["self"] (sp_Parts_apart K c)) (M_Part_cut : Mth P w K mg base 3 (c.cls "Part") "cut" ["self", "vector"] (sp_Part_cut K c)) (D_distance : Dfn P w K mg base 1 "distance" ["a", "b"] (sp_distance K c)) (D_gap : Dfn P w K mg base 2 "gap" ["far", "near"] (sp_gap K)) {f : Addr} {fd : FuncData} (F : Fun K "least_distance" "Parts.least_distance" s_Parts_least_distance f fd) : FnOk P w K mg base CX0 4 f fd ["self", "q"] (sp_Parts_least_distance K c) := by
  have sc := sc_Parts_least_distance
  refine F.ok sc_Parts_least_distance (fun vs H Q E h => ((w_Parts_least_distance (c := c)) vs H Q E h).1) (fun cdv A outer s H vs Q E hr h => ⟨T_Parts_least_distance K c, ?_, ((w_Parts_least_distance (c := c)) vs H Q E h).2⟩)
  exact (pss_cons (ps_set (i := 2) sc.nd rfl (by first | exact Or.inl rfl | exact Or.inr rfl) pe_int)
      (pss_cut (ps_if (PW.pt (pw_and (pt_u (z_meth (pv 0) C_Parts M_Parts_fits (hr.mono (by decide)) (pa_cons (pv 1) pa_nil))) (pw_and1 (pt_u (z_meth0 (pv 0) C_Parts M_Parts_apart (hr.mono (by decide))))))) (pss_one (ps_for PassesOwn.never rfl (pi_sq (pe_fld (pv 0) rfl)) (pg_name (i := 3) sc.nd rfl (by first | exact Or.inl rfl | exact Or.inr rfl)) (pss_one (ps_set (i := 2) sc.nd rfl (by first | exact Or.inl rfl | exact Or.inr rfl) (pe_op op_uAdd (pv 2) (z_call D_gap (hr.mono (by decide)) (by rfl) (pa_cons (z_call D_distance (hr.mono (by decide)) (by rfl) (pa_cons (pe_fld (pv 3) rfl) (pa_cons (z_meth (pv 3) C_Part M_Part_cut (hr.mono (by decide)) (pa_cons (pv 1) pa_nil)) pa_nil))) (pa_cons (pe_fld (pv 3) rfl) pa_nil)))))))) pss_nil)
      (pss_one (ps_ret (pv 2)))))
abbrev s_split : Stmt := (topS 8)
theorem sc_split : FnScope N_split ["d", "e", "f"] (defScope s_split) := ⟨rfl, rfl, rfl, by decide +kernel, rfl, by decide +kernel, by decide +kernel⟩
theorem ok_split {f : Addr} {fd : FuncData} (F : Fun K "split" "split" s_split f fd) : FnOk P w K mg base CX0 1 f fd ["d", "e", "f"] (sp_split K) := by
  have sc := sc_split
  refine F.ok sc_split (fun vs H Q E h => ((w_split) vs H Q E h).1) (fun cdv A outer s H vs Q E hr h => ⟨T_split K, ?_, ((w_split) vs H Q E h).2⟩)
  exact (pss_cons (ps_if (PW.pt (pw_or (pt_cmpR op_uGe (pv 1) (pv 0) (nomark _)) (pw_or1 (pt_cmpR (op_uEq hr.units) (pv 2) pe_int (nomark _))))) (pss_one (ps_ret pe_int)) pss_nil)
      (pss_one (ps_ret (pe_un un_uNeg (pe_op op_uDiv (pe_un un_uNeg (pe_op op_uMul (pe_op op_uSub (pv 0) (pv 1)) (pe_op op_uSub (pv 0) (pv 1)))) (pe_op op_uMul pe_int (pv 2)))))))
abbrev s_Cell_least_distance : Stmt := (inClass (topS 14) 3)
theorem sc_Cell_least_distance : FnScope N_Cell_least_distance ["self", "q"] (defScope s_Cell_least_distance) := ⟨rfl, rfl, rfl, by decide +kernel, rfl, by decide +kernel, by decide +kernel⟩
theorem ok_Cell_least_distance (C_Cell : ClsF K mg c "Cell" ["near", "rival"]) (M_Cell_fits : Mth P w K mg base 1 (c.cls "Cell") "fits" ["self", "q"] (sp_Cell_fits K c)) (D_distance : Dfn P w K mg base 1 "distance" ["a", "b"] (sp_distance K c)) (D_split : Dfn P w K mg base 1 "split" ["d", "e", "f"] (sp_split K)) {f : Addr} {fd : FuncData} (F : Fun K "least_distance" "Cell.least_distance" s_Cell_least_distance f fd) : FnOk P w K mg base CX0 2 f fd ["self", "q"] (sp_Cell_least_distance K c) := by
  have sc := sc_Cell_least_distance
  refine F.ok sc_Cell_least_distance (fun vs H Q E h => ((w_Cell_least_distance (c := c)) vs H Q E h).1) (fun cdv A outer s H vs Q E hr h => ⟨T_Cell_least_distance K c, ?_, ((w_Cell_least_distance (c := c)) vs H Q E h).2⟩)
  exact (pss_cons (ps_if (pt_not (pt_u (z_meth (pv 0) C_Cell M_Cell_fits (hr.mono (by decide)) (pa_cons (pv 1) pa_nil)))) (pss_one (ps_ret pe_int)) pss_nil)
      (pss_one (ps_ret (z_call D_split (hr.mono (by decide)) (by rfl) (pa_cons (z_call D_distance (hr.mono (by decide)) (by rfl) (pa_cons (pv 1) (pa_cons (pe_fld (pv 0) rfl) pa_nil))) (pa_cons (z_call D_distance (hr.mono (by decide)) (by rfl) (pa_cons (pv 1) (pa_cons (pe_fld (pv 0) rfl) pa_nil))) (pa_cons (z_call D_distance (hr.mono (by decide)) (by rfl) (pa_cons (pe_fld (pv 0) rfl) (pa_cons (pe_fld (pv 0) rfl) pa_nil))) pa_nil)))))))
abbrev s_Box_least_distance : Stmt := (inClass (topS 15) 3)
theorem sc_Box_least_distance : FnScope N_Box_least_distance ["self", "q"] (defScope s_Box_least_distance) := ⟨rfl, rfl, rfl, by decide +kernel, rfl, by decide +kernel, by decide +kernel⟩
theorem ok_Box_least_distance (C_Box : ClsF K mg c "Box" ["low", "high"]) (M_Box_fits : Mth P w K mg base 1 (c.cls "Box") "fits" ["self", "q"] (sp_Box_fits K c)) (m_zip : mg "zip" = none) {f : Addr} {fd : FuncData} (F : Fun K "least_distance" "Box.least_distance" s_Box_least_distance f fd) : FnOk P w K mg base CX0 2 f fd ["self", "q"] (sp_Box_least_distance K c) := by
  have sc := sc_Box_least_distance
  refine F.ok sc_Box_least_distance (fun vs H Q E h => ((w_Box_least_distance (c := c)) vs H Q E h).1) (fun cdv A outer s H vs Q E hr h => ⟨T_Box_least_distance K c, ?_, ((w_Box_least_distance (c := c)) vs H Q E h).2⟩)
  exact (pss_cons (ps_set (i := 2) sc.nd rfl (by first | exact Or.inl rfl | exact Or.inr rfl) pe_int)
      (pss_cut (ps_if (pt_u (z_meth (pv 0) C_Box M_Box_fits (hr.mono (by decide)) (pa_cons (pv 1) pa_nil))) (pss_one (ps_for PassesOwn.never rfl (pi_zip3 (by rfl) m_zip (pa_cons (pv 1) (pa_cons (pe_fld (pv 0) rfl) (pa_cons (pe_fld (pv 0) rfl) pa_nil)))) (pg_tup rfl (pgs_cons (pg_name (i := 3) sc.nd rfl (by first | exact Or.inl rfl | exact Or.inr rfl)) (pgs_cons (pg_name (i := 4) sc.nd rfl (by first | exact Or.inl rfl | exact Or.inr rfl)) (pgs_cons (pg_name (i := 5) sc.nd rfl (by first | exact Or.inl rfl | exact Or.inr rfl)) pgs_nil)))) (pss_one (ps_if (pt_cmpR (op_uLt hr.units) (pv 3) (pv 4) (nomark _)) (pss_one (ps_set (i := 2) sc.nd rfl (by first | exact Or.inl rfl | exact Or.inr rfl) (pe_op op_uAdd (pv 2) (pe_op op_uMul (pe_op op_uSub (pv 4) (pv 3)) (pe_op op_uSub (pv 4) (pv 3)))))) (pss_one (ps_if (pt_cmpR op_uGt (pv 3) (pv 5) (nomark _)) (pss_one (ps_set (i := 2) sc.nd rfl (by first | exact Or.inl rfl | exact Or.inr rfl) (pe_op op_uAdd (pv 2) (pe_op op_uMul (pe_op op_uSub (pv 3) (pv 5)) (pe_op op_uSub (pv 3) (pv 5)))))) pss_nil)))))) pss_nil)
      (pss_one (ps_ret (pv 2)))))
abbrev s_Norms_least_distance : Stmt := (inClass (topS 16) 2)
theorem sc_Norms_least_distance : FnScope N_Norms_least_distance ["self", "q"] (defScope s_Norms_least_distance) := ⟨rfl, rfl, rfl, by decide +kernel, rfl, by decide +kernel, by decide +kernel⟩
theorem ok_Norms_least_distance (D_norm : Dfn P w K mg base 2 "norm" ["a"] (sp_norm K c)) (D_gap : Dfn P w K mg base 2 "gap" ["far", "near"] (sp_gap K)) {f : Addr} {fd : FuncData} (F : Fun K "least_distance" "Norms.least_distance" s_Norms_least_distance f fd) : FnOk P w K mg base CX0 3 f fd ["self", "q"] (sp_Norms_least_distance K c) := by
  have sc := sc_Norms_least_distance
  refine F.ok sc_Norms_least_distance (fun vs H Q E h => ((w_Norms_least_distance (c := c)) vs H Q E h).1) (fun cdv A outer s H vs Q E hr h => ⟨T_Norms_least_distance K c, ?_, ((w_Norms_least_distance (c := c)) vs H Q E h).2⟩)
  exact (pss_cons (ps_set (i := 2) sc.nd rfl (by first | exact Or.inl rfl | exact Or.inr rfl) (z_call D_norm (hr.mono (by decide)) (by rfl) (pa_cons (pv 1) pa_nil)))
      (pss_cons (ps_if (pt_cmpR (op_uLt hr.units) (pe_fld (pv 0) rfl) (pv 2) (nomark _)) (pss_one (ps_ret (z_call D_gap (hr.mono (by decide)) (by rfl) (pa_cons (pv 2) (pa_cons (pe_fld (pv 0) rfl) pa_nil))))) pss_nil)
      (pss_cons (ps_if (pt_cmpR (op_uLt hr.units) (pv 2) (pe_fld (pv 0) rfl) (nomark _)) (pss_one (ps_ret (z_call D_gap (hr.mono (by decide)) (by rfl) (pa_cons (pe_fld (pv 0) rfl) (pa_cons (pv 2) pa_nil))))) pss_nil)
      (pss_one (ps_ret pe_int)))))
abbrev s_Fact_least_distance : Stmt := (inClass (topS 10) 1)
theorem sc_Fact_least_distance : FnScope N_Fact_least_distance ["self", "q"] (defScope s_Fact_least_distance) := ⟨rfl, rfl, rfl, by decide +kernel, rfl, by decide +kernel, by decide +kernel⟩
theorem ok_Fact_least_distance {f : Addr} {fd : FuncData} (F : Fun K "least_distance" "Fact.least_distance" s_Fact_least_distance f fd) : FnOk P w K mg base CX0 1 f fd ["self", "q"] (sp_Fact_least_distance K c) := by
  have sc := sc_Fact_least_distance
  refine F.ok sc_Fact_least_distance (fun vs H Q E h => ((w_Fact_least_distance (c := c)) vs H Q E h).1) (fun cdv A outer s H vs Q E hr h => ⟨T_Fact_least_distance K, ?_, ((w_Fact_least_distance (c := c)) vs H Q E h).2⟩)
  exact (pss_one (ps_ret pe_int))
abbrev s_Fact_least_differing : Stmt := (inClass (topS 10) 2)
theorem sc_Fact_least_differing : FnScope N_Fact_least_differing ["self", "q"] (defScope s_Fact_least_differing) := ⟨rfl, rfl, rfl, by decide +kernel, rfl, by decide +kernel, by decide +kernel⟩
theorem ok_Fact_least_differing (C_Parts : ClsF K mg c "Parts" ["parts"]) (C_Cell : ClsF K mg c "Cell" ["near", "rival"]) (C_Box : ClsF K mg c "Box" ["low", "high"]) (C_Norms : ClsF K mg c "Norms" ["low", "high"]) (C_Differ : ClsF K mg c "Differ" ["centre", "most"]) (M_Parts_least_distance : Mth P w K mg base 4 (c.cls "Parts") "least_distance" ["self", "q"] (sp_Parts_least_distance K c)) (M_Cell_least_distance : Mth P w K mg base 2 (c.cls "Cell") "least_distance" ["self", "q"] (sp_Cell_least_distance K c)) (M_Box_least_distance : Mth P w K mg base 2 (c.cls "Box") "least_distance" ["self", "q"] (sp_Box_least_distance K c)) (M_Norms_least_distance : Mth P w K mg base 3 (c.cls "Norms") "least_distance" ["self", "q"] (sp_Norms_least_distance K c)) (M_Fact_least_distance_at_Differ : Mth P w K mg base 1 (c.cls "Differ") "least_distance" ["self", "q"] (sp_Fact_least_distance K c)) {f : Addr} {fd : FuncData} (F : Fun K "least_differing" "Fact.least_differing" s_Fact_least_differing f fd) : FnOk P w K mg base CX0 5 f fd ["self", "q"] (sp_Fact_least_differing K c) := by
  have sc := sc_Fact_least_differing
  refine F.ok sc_Fact_least_differing (fun vs H Q E h => ((w_Fact_least_differing (c := c)) vs H Q E h).1) (fun cdv A outer s H vs Q E hr h => ⟨T_Fact_least_differing K c, ?_, ((w_Fact_least_differing (c := c)) vs H Q E h).2⟩)
  exact (pss_one (ps_ret (pe_any (z_meth (pv 0) C_Parts M_Parts_least_distance (hr.mono (by decide)) (pa_cons (pv 1) pa_nil)) (pe_any (z_meth (pv 0) C_Cell M_Cell_least_distance (hr.mono (by decide)) (pa_cons (pv 1) pa_nil)) (pe_any (z_meth (pv 0) C_Box M_Box_least_distance (hr.mono (by decide)) (pa_cons (pv 1) pa_nil)) (pe_any (z_meth (pv 0) C_Norms M_Norms_least_distance (hr.mono (by decide)) (pa_cons (pv 1) pa_nil)) (z_meth (pv 0) C_Differ M_Fact_least_distance_at_Differ (hr.mono (by decide)) (pa_cons (pv 1) pa_nil))))))))
abbrev s_Differ_least_differing : Stmt := (inClass (topS 17) 2)
theorem sc_Differ_least_differing : FnScope N_Differ_least_differing ["self", "q"] (defScope s_Differ_least_differing) := ⟨rfl, rfl, rfl, by decide +kernel, rfl, by decide +kernel, by decide +kernel⟩
theorem ok_Differ_least_differing (D_differing : Dfn P w K mg base 1 "differing" ["a", "b"] (sp_differing K c)) (m_len : mg "len" = none) (m_max : mg "max" = none) {f : Addr} {fd : FuncData} (F : Fun K "least_differing" "Differ.least_differing" s_Differ_least_differing f fd) : FnOk P w K mg base CX0 2 f fd ["self", "q"] (sp_Differ_least_differing K c) := by
  have sc := sc_Differ_least_differing
  refine F.ok sc_Differ_least_differing (fun vs H Q E h => ((w_Differ_least_differing (c := c)) vs H Q E h).1) (fun cdv A outer s H vs Q E hr h => ⟨T_Differ_least_differing K c, ?_, ((w_Differ_least_differing (c := c)) vs H Q E h).2⟩)
  exact (pss_cons (ps_if (pt_cmpR (op_uNe hr.units) (pe_callB call_uLen (by rfl) m_len (by decide +kernel) (pa_cons (pe_fld (pv 0) rfl) pa_nil)) (pe_callB call_uLen (by rfl) m_len (by decide +kernel) (pa_cons (pv 1) pa_nil)) (nomark _)) (pss_one (ps_ret pe_int)) pss_nil)
      (pss_one (ps_ret (pe_callB (call_uMax rfl) (by rfl) m_max (by decide +kernel) (pa_cons pe_int (pa_cons (pe_op op_uSub (z_call D_differing (hr.mono (by decide)) (by rfl) (pa_cons (pe_fld (pv 0) rfl) (pa_cons (pv 1) pa_nil))) (pe_fld (pv 0) rfl)) pa_nil))))))
abbrev s_Parts_covers : Stmt := (inClass (topS 13) 4)
theorem sc_Parts_covers : FnScope N_Parts_covers ["self", "size"] (defScope s_Parts_covers) := ⟨rfl, rfl, rfl, by decide +kernel, rfl, by decide +kernel, by decide +kernel⟩
theorem ok_Parts_covers (C_Part : ClsF K mg c "Part" ["start", "centre", "radius"]) (P_Part_after : Prp P w K mg base 1 (c.cls "Part") "after" ["self"] (sp_Part_after K c)) {f : Addr} {fd : FuncData} (F : Fun K "covers" "Parts.covers" s_Parts_covers f fd) : FnOk P w K mg base CX0 3 f fd ["self", "size"] (sp_Parts_covers K c) := by
  have sc := sc_Parts_covers
  refine F.ok sc_Parts_covers (fun vs H Q E h => ((w_Parts_covers (c := c)) vs H Q E h).1) (fun cdv A outer s H vs Q E hr h => ⟨T_Parts_covers K c, ?_, ((w_Parts_covers (c := c)) vs H Q E h).2⟩)
  exact (pss_cons (ps_set (i := 2) sc.nd rfl (by first | exact Or.inl rfl | exact Or.inr rfl) pe_int)
      (pss_cons (ps_for PassesOwn.never rfl (pi_sq (pe_fld (pv 0) rfl)) (pg_name (i := 3) sc.nd rfl (by first | exact Or.inl rfl | exact Or.inr rfl)) (pss_cons (ps_if (pt_cmpR (op_uNe hr.units) (pe_fld (pv 3) rfl) (pv 2) (nomark _)) (pss_one (ps_ret pe_bl)) pss_nil)
      (pss_one (ps_set (i := 2) sc.nd rfl (by first | exact Or.inl rfl | exact Or.inr rfl) (z_prop (pv 3) C_Part P_Part_after (hr.mono (by decide)) rfl)))))
      (pss_one (ps_ret (pe_cmpR (op_uEq hr.units) (pv 2) (pv 1) (nomark _))))))
abbrev s_Parts_most_product : Stmt := (inClass (topS 13) 6)
theorem sc_Parts_most_product : FnScope N_Parts_most_product ["self", "q"] (defScope s_Parts_most_product) := ⟨rfl, rfl, rfl, by decide +kernel, rfl, by decide +kernel, by decide +kernel⟩
theorem ok_Parts_most_product (C_Parts : ClsF K mg c "Parts" ["parts"]) (C_Part : ClsF K mg c "Part" ["start", "centre", "radius"]) (M_Parts_fits : Mth P w K mg base 3 (c.cls "Parts") "fits" ["self", "q"] (sp_Parts_fits K c)) (M_Parts_covers : Mth P w K mg base 3 (c.cls "Parts") "covers" ["self", "size"] (sp_Parts_covers K c)) (M_Part_cut : Mth P w K mg base 3 (c.cls "Part") "cut" ["self", "vector"] (sp_Part_cut K c)) (D_inner : Dfn P w K mg base 1 "inner" ["a", "b"] (sp_inner K c)) (D_norm : Dfn P w K mg base 2 "norm" ["a"] (sp_norm K c)) (D_root : Dfn P w K mg base 1 "root" ["number"] (sp_root K)) (m_len : mg "len" = none) {f : Addr} {fd : FuncData} (F : Fun K "most_product" "Parts.most_product" s_Parts_most_product f fd) : FnOk P w K mg base CX0 4 f fd ["self", "q"] (sp_Parts_most_product K c) := by
  have sc := sc_Parts_most_product
  refine F.ok sc_Parts_most_product (fun vs H Q E h => ((w_Parts_most_product (c := c)) vs H Q E h).1) (fun cdv A outer s H vs Q E hr h => ⟨T_Parts_most_product K c, ?_, ((w_Parts_most_product (c := c)) vs H Q E h).2⟩)
  exact (pss_cons (ps_if (PW.pt (pw_or (pt_not (pt_u (z_meth (pv 0) C_Parts M_Parts_fits (hr.mono (by decide)) (pa_cons (pv 1) pa_nil)))) (pw_or1 (pt_not (pt_u (z_meth (pv 0) C_Parts M_Parts_covers (hr.mono (by decide)) (pa_cons (pe_callB call_uLen (by rfl) m_len (by decide +kernel) (pa_cons (pv 1) pa_nil)) pa_nil))))))) (pss_one (ps_ret pe_non)) pss_nil)
      (pss_cons (ps_set (i := 2) sc.nd rfl (by first | exact Or.inl rfl | exact Or.inr rfl) pe_int)
      (pss_cons (ps_for PassesOwn.never rfl (pi_sq (pe_fld (pv 0) rfl)) (pg_name (i := 3) sc.nd rfl (by first | exact Or.inl rfl | exact Or.inr rfl)) (pss_one (ps_set (i := 2) sc.nd rfl (by first | exact Or.inl rfl | exact Or.inr rfl) (pe_op op_uAdd (pe_op op_uAdd (pv 2) (z_call D_inner (hr.mono (by decide)) (by rfl) (pa_cons (pe_fld (pv 3) rfl) (pa_cons (z_meth (pv 3) C_Part M_Part_cut (hr.mono (by decide)) (pa_cons (pv 1) pa_nil)) pa_nil)))) (z_call D_root (hr.mono (by decide)) (by rfl) (pa_cons (pe_op op_uMul (z_call D_norm (hr.mono (by decide)) (by rfl) (pa_cons (z_meth (pv 3) C_Part M_Part_cut (hr.mono (by decide)) (pa_cons (pv 1) pa_nil)) pa_nil)) (pe_fld (pv 3) rfl)) pa_nil))))))
      (pss_one (ps_ret (pv 2))))))
abbrev s_Fact_most_product : Stmt := (inClass (topS 10) 3)
theorem sc_Fact_most_product : FnScope N_Fact_most_product ["self", "q"] (defScope s_Fact_most_product) := ⟨rfl, rfl, rfl, by decide +kernel, rfl, by decide +kernel, by decide +kernel⟩
theorem ok_Fact_most_product {f : Addr} {fd : FuncData} (F : Fun K "most_product" "Fact.most_product" s_Fact_most_product f fd) : FnOk P w K mg base CX0 1 f fd ["self", "q"] (sp_Fact_most_product K c) := by
  have sc := sc_Fact_most_product
  refine F.ok sc_Fact_most_product (fun vs H Q E h => ((w_Fact_most_product (c := c)) vs H Q E h).1) (fun cdv A outer s H vs Q E hr h => ⟨T_Fact_most_product K, ?_, ((w_Fact_most_product (c := c)) vs H Q E h).2⟩)
  exact (pss_one (ps_ret pe_non))
abbrev s_Box_most_product : Stmt := (inClass (topS 15) 4)
theorem sc_Box_most_product : FnScope N_Box_most_product ["self", "q"] (defScope s_Box_most_product) := ⟨rfl, rfl, rfl, by decide +kernel, rfl, by decide +kernel, by decide +kernel⟩
theorem ok_Box_most_product (C_Box : ClsF K mg c "Box" ["low", "high"]) (M_Box_fits : Mth P w K mg base 1 (c.cls "Box") "fits" ["self", "q"] (sp_Box_fits K c)) (m_zip : mg "zip" = none) (m_max : mg "max" = none) {f : Addr} {fd : FuncData} (F : Fun K "most_product" "Box.most_product" s_Box_most_product f fd) : FnOk P w K mg base CX0 2 f fd ["self", "q"] (sp_Box_most_product K c) := by
  have sc := sc_Box_most_product
  refine F.ok sc_Box_most_product (fun vs H Q E h => ((w_Box_most_product (c := c)) vs H Q E h).1) (fun cdv A outer s H vs Q E hr h => ⟨T_Box_most_product K c, ?_, ((w_Box_most_product (c := c)) vs H Q E h).2⟩)
  exact (pss_cons (ps_if (pt_not (pt_u (z_meth (pv 0) C_Box M_Box_fits (hr.mono (by decide)) (pa_cons (pv 1) pa_nil)))) (pss_one (ps_ret pe_non)) pss_nil)
      (pss_cons (ps_set (i := 2) sc.nd rfl (by first | exact Or.inl rfl | exact Or.inr rfl) pe_int)
      (pss_cons (ps_for PassesOwn.never rfl (pi_zip3 (by rfl) m_zip (pa_cons (pv 1) (pa_cons (pe_fld (pv 0) rfl) (pa_cons (pe_fld (pv 0) rfl) pa_nil)))) (pg_tup rfl (pgs_cons (pg_name (i := 3) sc.nd rfl (by first | exact Or.inl rfl | exact Or.inr rfl)) (pgs_cons (pg_name (i := 4) sc.nd rfl (by first | exact Or.inl rfl | exact Or.inr rfl)) (pgs_cons (pg_name (i := 5) sc.nd rfl (by first | exact Or.inl rfl | exact Or.inr rfl)) pgs_nil)))) (pss_one (ps_set (i := 2) sc.nd rfl (by first | exact Or.inl rfl | exact Or.inr rfl) (pe_op op_uAdd (pv 2) (pe_callB (call_uMax rfl) (by rfl) m_max (by decide +kernel) (pa_cons (pe_op op_uMul (pv 4) (pv 3)) (pa_cons (pe_op op_uMul (pv 5) (pv 3)) pa_nil)))))))
      (pss_one (ps_ret (pv 2))))))
abbrev s_Norms_most_product : Stmt := (inClass (topS 16) 3)
theorem sc_Norms_most_product : FnScope N_Norms_most_product ["self", "q"] (defScope s_Norms_most_product) := ⟨rfl, rfl, rfl, by decide +kernel, rfl, by decide +kernel, by decide +kernel⟩
theorem ok_Norms_most_product (D_norm : Dfn P w K mg base 2 "norm" ["a"] (sp_norm K c)) (D_root : Dfn P w K mg base 1 "root" ["number"] (sp_root K)) {f : Addr} {fd : FuncData} (F : Fun K "most_product" "Norms.most_product" s_Norms_most_product f fd) : FnOk P w K mg base CX0 3 f fd ["self", "q"] (sp_Norms_most_product K c) := by
  have sc := sc_Norms_most_product
  refine F.ok sc_Norms_most_product (fun vs H Q E h => ((w_Norms_most_product (c := c)) vs H Q E h).1) (fun cdv A outer s H vs Q E hr h => ⟨T_Norms_most_product K c, ?_, ((w_Norms_most_product (c := c)) vs H Q E h).2⟩)
  exact (pss_one (ps_ret (z_call D_root (hr.mono (by decide)) (by rfl) (pa_cons (pe_op op_uMul (z_call D_norm (hr.mono (by decide)) (by rfl) (pa_cons (pv 1) pa_nil)) (pe_fld (pv 0) rfl)) pa_nil))))
abbrev s_law : Stmt := (topS 43)
theorem sc_law : FnScope N_law ["_law_script"] (defScope s_law) := ⟨rfl, rfl, rfl, by decide +kernel, rfl, by decide +kernel, by decide +kernel⟩
theorem ok_law (C_Record : ClsF K mg c "Record" ["name", "vector", "fields", "words"]) (C_Parts : ClsF K mg c "Parts" ["parts"]) (C_Cell : ClsF K mg c "Cell" ["near", "rival"]) (C_Box : ClsF K mg c "Box" ["low", "high"]) (C_Norms : ClsF K mg c "Norms" ["low", "high"]) (C_Differ : ClsF K mg c "Differ" ["centre", "most"]) (D_law_next : Dfn P w K mg base 2 "_law_next" ["_law_state", "_law_many"] (sp_law_next K)) (D_law_vector : Dfn P w K mg base 3 "_law_vector" ["_law_state", "_law_size"] (sp_law_vector K c)) (D_law_bits : Dfn P w K mg base 1 "_law_bits" ["_law_vector_here"] (sp_law_bits K c)) (D_law_true_fact : Dfn P w K mg base 4 "_law_true_fact" ["_law_state", "_law_vectors"] (sp_law_true_fact K c)) (D_law_made : Dfn P w K mg base 3 "_law_made" ["_law_fact"] (sp_law_made K c)) (K_Record_init_2 : MkrK CX0 P w K mg base 1 (c.cls "Record") ["self", "name", "vector", "fields", "words"] (sp_Record_init K c) 2 [] [.e, .e] [(false, 0), (false, 1)]) (M_Parts_holds : Mth P w K mg base 4 (c.cls "Parts") "holds" ["self", "record"] (sp_Parts_holds K c)) (M_Cell_holds : Mth P w K mg base 2 (c.cls "Cell") "holds" ["self", "record"] (sp_Cell_holds K c)) (M_Box_holds : Mth P w K mg base 2 (c.cls "Box") "holds" ["self", "record"] (sp_Box_holds K c)) (M_Norms_holds : Mth P w K mg base 3 (c.cls "Norms") "holds" ["self", "record"] (sp_Norms_holds K c)) (M_Differ_holds : Mth P w K mg base 2 (c.cls "Differ") "holds" ["self", "record"] (sp_Differ_holds K c)) (M_Parts_least_distance : Mth P w K mg base 4 (c.cls "Parts") "least_distance" ["self", "q"] (sp_Parts_least_distance K c)) (M_Cell_least_distance : Mth P w K mg base 2 (c.cls "Cell") "least_distance" ["self", "q"] (sp_Cell_least_distance K c)) (M_Box_least_distance : Mth P w K mg base 2 (c.cls "Box") "least_distance" ["self", "q"] (sp_Box_least_distance K c)) (M_Norms_least_distance : Mth P w K mg base 3 (c.cls "Norms") "least_distance" ["self", "q"] (sp_Norms_least_distance K c)) (M_Fact_least_distance_at_Differ : Mth P w K mg base 1 (c.cls "Differ") "least_distance" ["self", "q"] (sp_Fact_least_distance K c)) (D_law_distance : Dfn P w K mg base 1 "_law_distance" ["_law_a", "_law_b"] (sp_law_distance K c)) (M_Fact_least_differing_at_Parts : Mth P w K mg base 5 (c.cls "Parts") "least_differing" ["self", "q"] (sp_Fact_least_differing K c)) (M_Fact_least_differing_at_Cell : Mth P w K mg base 5 (c.cls "Cell") "least_differing" ["self", "q"] (sp_Fact_least_differing K c)) (M_Fact_least_differing_at_Box : Mth P w K mg base 5 (c.cls "Box") "least_differing" ["self", "q"] (sp_Fact_least_differing K c)) (M_Fact_least_differing_at_Norms : Mth P w K mg base 5 (c.cls "Norms") "least_differing" ["self", "q"] (sp_Fact_least_differing K c)) (M_Differ_least_differing : Mth P w K mg base 2 (c.cls "Differ") "least_differing" ["self", "q"] (sp_Differ_least_differing K c)) (D_law_differing : Dfn P w K mg base 1 "_law_differing" ["_law_a", "_law_b"] (sp_law_differing K c)) (M_Parts_most_product : Mth P w K mg base 4 (c.cls "Parts") "most_product" ["self", "q"] (sp_Parts_most_product K c)) (M_Fact_most_product_at_Cell : Mth P w K mg base 1 (c.cls "Cell") "most_product" ["self", "q"] (sp_Fact_most_product K c)) (M_Fact_most_product_at_Differ : Mth P w K mg base 1 (c.cls "Differ") "most_product" ["self", "q"] (sp_Fact_most_product K c)) (M_Box_most_product : Mth P w K mg base 2 (c.cls "Box") "most_product" ["self", "q"] (sp_Box_most_product K c)) (M_Norms_most_product : Mth P w K mg base 3 (c.cls "Norms") "most_product" ["self", "q"] (sp_Norms_most_product K c)) (D_law_inner : Dfn P w K mg base 1 "_law_inner" ["_law_a", "_law_b"] (sp_law_inner K c)) (m_list : mg "list" = none) (m_range : mg "range" = none) {f : Addr} {fd : FuncData} (F : Fun K "law" "law" s_law f fd) : FnOk P w K mg base CX0 6 f fd ["_law_script"] (sp_law K) := by
  have sc := sc_law
  refine F.ok sc_law (fun vs H Q E h => ((w_law (c := c)) vs H Q E h).1) (fun cdv A outer s H vs Q E hr h => ⟨T_law K c, ?_, ((w_law (c := c)) vs H Q E h).2⟩)
  exact (pss_cons (ps_set (i := 1) sc.nd rfl (by first | exact Or.inl rfl | exact Or.inr rfl) (pe_lst (pa_cons (pe_callTy call_uList (by rfl) m_list (by decide +kernel) (pa_cons (pv 0) pa_nil)) (pa_cons pe_int (pa_cons pe_int pa_nil)))))
      (pss_cons (ps_for PassesOwn.never rfl (pi_range1 (by rfl) m_range (pa_cons pe_int pa_nil)) (pg_name (i := 2) sc.nd rfl (by first | exact Or.inl rfl | exact Or.inr rfl)) (pss_cons (ps_set (i := 3) sc.nd rfl (by first | exact Or.inl rfl | exact Or.inr rfl) (pe_op op_uAdd pe_int (z_call D_law_next (hr.mono (by decide)) (by rfl) (pa_cons (pv 1) (pa_cons pe_int pa_nil)))))
      (pss_cons (ps_set (i := 4) sc.nd rfl (by first | exact Or.inl rfl | exact Or.inr rfl) (pe_cmpR (op_uEq hr.units) (z_call D_law_next (hr.mono (by decide)) (by rfl) (pa_cons (pv 1) (pa_cons pe_int pa_nil))) pe_int (nomark _)))
      (pss_cons (by first | exact (ps_setLc (i := 5) (own := [("_law_k", 6)]) (g := (gName 6)) (tt := tYes) rfl sc.nd rfl rfl (sw_true rfl rfl rfl (by decide +kernel)) (pi_range1 (by rfl) m_range (pa_cons (pe_op op_uAdd pe_int (z_call D_law_next (hr.mono (by decide)) (by rfl) (pa_cons (pv 1) (pa_cons pe_int pa_nil)))) pa_nil)) (blkOk_by (N := N_law) (sc := defScope s_law) (by decide +kernel)) (fun _ _ _ _ _ => (pg_name (i := 6) sc.nd rfl (by first | exact Or.inl rfl | exact Or.inr rfl))) (fun _ _ _ _ _ => pts_nil) (fun _ _ _ _ _ => (z_call D_law_vector (hr.mono (by decide)) (by rfl) (pa_cons (pv 1) (pa_cons (pv 3) pa_nil))))) | exact (ps_set (i := 5) sc.nd rfl (Or.inr rfl) (pe_lc (own := [("_law_k", 6)]) (g := (gName 6)) (tt := tYes) rfl sc.nd (pi_range1 (by rfl) m_range (pa_cons (pe_op op_uAdd pe_int (z_call D_law_next (hr.mono (by decide)) (by rfl) (pa_cons (pv 1) (pa_cons pe_int pa_nil)))) pa_nil)) (blkOk_by (N := N_law) (sc := defScope s_law) (by decide +kernel)) (fun _ _ _ _ _ => (pg_name (i := 6) sc.nd rfl (by first | exact Or.inl rfl | exact Or.inr rfl))) (fun _ _ _ _ _ => pts_nil) (fun _ _ _ _ _ => (z_call D_law_vector (hr.mono (by decide)) (by rfl) (pa_cons (pv 1) (pa_cons (pv 3) pa_nil)))))))
      (pss_cons (by first | exact (ps_setLc (i := 7) (own := [("_law_number", 8)]) (g := (gName 8)) (tt := tYes) rfl sc.nd rfl rfl (sw_true rfl rfl rfl (by decide +kernel)) (pi_sq (pe_ix ix_uIx (pv 5) pe_int (fun _ _ => rfl))) (blkOk_by (N := N_law) (sc := defScope s_law) (by decide +kernel)) (fun _ _ _ _ _ => (pg_name (i := 8) sc.nd rfl (by first | exact Or.inl rfl | exact Or.inr rfl))) (fun _ _ _ _ _ => pts_nil) (fun _ _ _ _ _ => (pe_op op_uSub (pe_op op_uAdd (pv 8) (z_call D_law_next (hr.mono (by decide)) (by rfl) (pa_cons (pv 1) (pa_cons pe_int pa_nil)))) pe_int))) | exact (ps_set (i := 7) sc.nd rfl (Or.inr rfl) (pe_lc (own := [("_law_number", 8)]) (g := (gName 8)) (tt := tYes) rfl sc.nd (pi_sq (pe_ix ix_uIx (pv 5) pe_int (fun _ _ => rfl))) (blkOk_by (N := N_law) (sc := defScope s_law) (by decide +kernel)) (fun _ _ _ _ _ => (pg_name (i := 8) sc.nd rfl (by first | exact Or.inl rfl | exact Or.inr rfl))) (fun _ _ _ _ _ => pts_nil) (fun _ _ _ _ _ => (pe_op op_uSub (pe_op op_uAdd (pv 8) (z_call D_law_next (hr.mono (by decide)) (by rfl) (pa_cons (pv 1) (pa_cons pe_int pa_nil)))) pe_int)))))
      (pss_cut (ps_if (pt_cmpR (op_uEq hr.units) (z_call D_law_next (hr.mono (by decide)) (by rfl) (pa_cons (pv 1) (pa_cons pe_int pa_nil))) pe_int (nomark _)) (pss_one (ps_set (i := 7) sc.nd rfl (by first | exact Or.inl rfl | exact Or.inr rfl) (z_call D_law_vector (hr.mono (by decide)) (by rfl) (pa_cons (pv 1) (pa_cons (pv 3) pa_nil))))) pss_nil)
      (pss_cut (ps_if (pt_u (pv 4)) (pss_cons (by first | exact (ps_setLc (i := 5) (own := [("_law_vector_here", 9)]) (g := (gName 9)) (tt := tYes) rfl sc.nd rfl rfl (sw_true rfl rfl rfl (by decide +kernel)) (pi_sq (pv 5)) (blkOk_by (N := N_law) (sc := defScope s_law) (by decide +kernel)) (fun _ _ _ _ _ => (pg_name (i := 9) sc.nd rfl (by first | exact Or.inl rfl | exact Or.inr rfl))) (fun _ _ _ _ _ => pts_nil) (fun _ _ _ _ _ => (z_call D_law_bits (hr.mono (by decide)) (by rfl) (pa_cons (pv 9) pa_nil)))) | exact (ps_set (i := 5) sc.nd rfl (Or.inr rfl) (pe_lc (own := [("_law_vector_here", 9)]) (g := (gName 9)) (tt := tYes) rfl sc.nd (pi_sq (pv 5)) (blkOk_by (N := N_law) (sc := defScope s_law) (by decide +kernel)) (fun _ _ _ _ _ => (pg_name (i := 9) sc.nd rfl (by first | exact Or.inl rfl | exact Or.inr rfl))) (fun _ _ _ _ _ => pts_nil) (fun _ _ _ _ _ => (z_call D_law_bits (hr.mono (by decide)) (by rfl) (pa_cons (pv 9) pa_nil))))))
      (pss_one (ps_set (i := 7) sc.nd rfl (by first | exact Or.inl rfl | exact Or.inr rfl) (z_call D_law_bits (hr.mono (by decide)) (by rfl) (pa_cons (pv 7) pa_nil))))) pss_nil)
      (pss_cons (ps_set (i := 10) sc.nd rfl (by first | exact Or.inl rfl | exact Or.inr rfl) (z_call D_law_made (hr.mono (by decide)) (by rfl) (pa_cons (z_call D_law_true_fact (hr.mono (by decide)) (by rfl) (pa_cons (pv 1) (pa_cons (pv 5) pa_nil))) pa_nil)))
      (pss_one (ps_for PassesOwn.never rfl (pi_sq (pv 5)) (pg_name (i := 9) sc.nd rfl (by first | exact Or.inl rfl | exact Or.inr rfl)) (pss_cons (ps_if (pt_not (pt_u (pe_any (z_meth (pv 10) C_Parts M_Parts_holds (hr.mono (by decide)) (pa_cons (z_makeK C_Record K_Record_init_2 pass00 (hr.mono (by decide)) (by rfl) (pa_cons pe_str (pa_cons (pe_callTy call_uList (by rfl) m_list (by decide +kernel) (pa_cons (pv 9) pa_nil)) pa_nil)) pk_nil) pa_nil)) (pe_any (z_meth (pv 10) C_Cell M_Cell_holds (hr.mono (by decide)) (pa_cons (z_makeK C_Record K_Record_init_2 pass00 (hr.mono (by decide)) (by rfl) (pa_cons pe_str (pa_cons (pe_callTy call_uList (by rfl) m_list (by decide +kernel) (pa_cons (pv 9) pa_nil)) pa_nil)) pk_nil) pa_nil)) (pe_any (z_meth (pv 10) C_Box M_Box_holds (hr.mono (by decide)) (pa_cons (z_makeK C_Record K_Record_init_2 pass00 (hr.mono (by decide)) (by rfl) (pa_cons pe_str (pa_cons (pe_callTy call_uList (by rfl) m_list (by decide +kernel) (pa_cons (pv 9) pa_nil)) pa_nil)) pk_nil) pa_nil)) (pe_any (z_meth (pv 10) C_Norms M_Norms_holds (hr.mono (by decide)) (pa_cons (z_makeK C_Record K_Record_init_2 pass00 (hr.mono (by decide)) (by rfl) (pa_cons pe_str (pa_cons (pe_callTy call_uList (by rfl) m_list (by decide +kernel) (pa_cons (pv 9) pa_nil)) pa_nil)) pk_nil) pa_nil)) (z_meth (pv 10) C_Differ M_Differ_holds (hr.mono (by decide)) (pa_cons (z_makeK C_Record K_Record_init_2 pass00 (hr.mono (by decide)) (by rfl) (pa_cons pe_str (pa_cons (pe_callTy call_uList (by rfl) m_list (by decide +kernel) (pa_cons (pv 9) pa_nil)) pa_nil)) pk_nil) pa_nil)))))))) (pss_one (ps_ret pe_bl)) pss_nil)
      (pss_cons (ps_if (pt_cmpR op_uGt (pe_any (z_meth (pv 10) C_Parts M_Parts_least_distance (hr.mono (by decide)) (pa_cons (pe_callTy call_uList (by rfl) m_list (by decide +kernel) (pa_cons (pv 7) pa_nil)) pa_nil)) (pe_any (z_meth (pv 10) C_Cell M_Cell_least_distance (hr.mono (by decide)) (pa_cons (pe_callTy call_uList (by rfl) m_list (by decide +kernel) (pa_cons (pv 7) pa_nil)) pa_nil)) (pe_any (z_meth (pv 10) C_Box M_Box_least_distance (hr.mono (by decide)) (pa_cons (pe_callTy call_uList (by rfl) m_list (by decide +kernel) (pa_cons (pv 7) pa_nil)) pa_nil)) (pe_any (z_meth (pv 10) C_Norms M_Norms_least_distance (hr.mono (by decide)) (pa_cons (pe_callTy call_uList (by rfl) m_list (by decide +kernel) (pa_cons (pv 7) pa_nil)) pa_nil)) (z_meth (pv 10) C_Differ M_Fact_least_distance_at_Differ (hr.mono (by decide)) (pa_cons (pe_callTy call_uList (by rfl) m_list (by decide +kernel) (pa_cons (pv 7) pa_nil)) pa_nil)))))) (z_call D_law_distance (hr.mono (by decide)) (by rfl) (pa_cons (pv 7) (pa_cons (pv 9) pa_nil))) (nomark _)) (pss_one (ps_ret pe_bl)) pss_nil)
      (pss_cons (ps_if (PW.pt (pw_and (pt_u (pv 4)) (pw_and1 (pt_cmpR op_uGt (pe_any (z_meth (pv 10) C_Parts M_Fact_least_differing_at_Parts (hr.mono (by decide)) (pa_cons (pe_callTy call_uList (by rfl) m_list (by decide +kernel) (pa_cons (pv 7) pa_nil)) pa_nil)) (pe_any (z_meth (pv 10) C_Cell M_Fact_least_differing_at_Cell (hr.mono (by decide)) (pa_cons (pe_callTy call_uList (by rfl) m_list (by decide +kernel) (pa_cons (pv 7) pa_nil)) pa_nil)) (pe_any (z_meth (pv 10) C_Box M_Fact_least_differing_at_Box (hr.mono (by decide)) (pa_cons (pe_callTy call_uList (by rfl) m_list (by decide +kernel) (pa_cons (pv 7) pa_nil)) pa_nil)) (pe_any (z_meth (pv 10) C_Norms M_Fact_least_differing_at_Norms (hr.mono (by decide)) (pa_cons (pe_callTy call_uList (by rfl) m_list (by decide +kernel) (pa_cons (pv 7) pa_nil)) pa_nil)) (z_meth (pv 10) C_Differ M_Differ_least_differing (hr.mono (by decide)) (pa_cons (pe_callTy call_uList (by rfl) m_list (by decide +kernel) (pa_cons (pv 7) pa_nil)) pa_nil)))))) (z_call D_law_differing (hr.mono (by decide)) (by rfl) (pa_cons (pv 7) (pa_cons (pv 9) pa_nil))) (nomark _))))) (pss_one (ps_ret pe_bl)) pss_nil)
      (pss_cons (ps_set (i := 11) sc.nd rfl (by first | exact Or.inl rfl | exact Or.inr rfl) (pe_any (z_meth (pv 10) C_Parts M_Parts_most_product (hr.mono (by decide)) (pa_cons (pe_callTy call_uList (by rfl) m_list (by decide +kernel) (pa_cons (pv 7) pa_nil)) pa_nil)) (pe_any (z_meth (pv 10) C_Cell M_Fact_most_product_at_Cell (hr.mono (by decide)) (pa_cons (pe_callTy call_uList (by rfl) m_list (by decide +kernel) (pa_cons (pv 7) pa_nil)) pa_nil)) (pe_any (z_meth (pv 10) C_Box M_Box_most_product (hr.mono (by decide)) (pa_cons (pe_callTy call_uList (by rfl) m_list (by decide +kernel) (pa_cons (pv 7) pa_nil)) pa_nil)) (pe_any (z_meth (pv 10) C_Norms M_Norms_most_product (hr.mono (by decide)) (pa_cons (pe_callTy call_uList (by rfl) m_list (by decide +kernel) (pa_cons (pv 7) pa_nil)) pa_nil)) (z_meth (pv 10) C_Differ M_Fact_most_product_at_Differ (hr.mono (by decide)) (pa_cons (pe_callTy call_uList (by rfl) m_list (by decide +kernel) (pa_cons (pv 7) pa_nil)) pa_nil)))))))
      (pss_one (ps_if (PW.pt (pw_and (pt_cmpR op_uIsNot (pv 11) pe_non (nomark _)) (pw_and1 (pt_cmpR (op_uLt hr.units) (pv 11) (z_call D_law_inner (hr.mono (by decide)) (by rfl) (pa_cons (pv 7) (pa_cons (pv 9) pa_nil))) (nomark _))))) (pss_one (ps_ret pe_bl)) pss_nil))))))))))))))))
      (pss_one (ps_ret pe_bl))))
end
def cEnv (C0 C1 C2 C3 C4 C5 C6 C7 : Addr) : CEnv := ⟨fun x => (([("Parts", C0), ("Part", C1), ("Cell", C2), ("Box", C3), ("Norms", C4), ("Differ", C5), ("Fact", C6), ("Record", C7)] : List (Str × Addr)).lookup x).getD 0, fun y => y ∈ ([] : List Str), fun y => y ∈ (["Parts", "Part", "Cell", "Box", "Norms", "Differ", "Fact", "Record"] : List Str)⟩
theorem all_mk {l : PySem.W.OpenLaw} {w : World} {K : PySem.W.Frag} {h : Heap} {mg : Str → Option Value} {fa f0 f1 f2 f3 f4 f5 f6 f7 f8 f9 f10 f11 f12 f13 f14 f15 f16 f17 f18 f19 f20 f21 f22 f23 f24 f25 f26 f27 f28 f29 f30 f31 f32 f33 f34 f35 f36 f37 f38 f39 f40 f41 f42 f43 f44 f45 f46 f47 C0 C1 C2 C3 C4 C5 C6 C7 p17 : Addr} (X : K.In h) (G : h.Ns mainGlobals mg) (hfa : mg "law" = some (.ref fa))
    {kD16 kT16_fields kT16_words : Addr}
    {ddkT16_fields ddkT16_words : Option Addr} {nnkT16_fields nnkT16_words : Nat} {sskT16_fields sskT16_words : Array (Option Value)}
    {rest17 : List Value}
    {od0 an0 od1 an1 od2 an2 od3 an3 od4 an4 od5 an5 od6 an6 od7 an7 od8 an8 od9 an9 od10 an10 od11 an11 od12 an12 od13 an13 od14 an14 od15 an15 od16 an16 od17 an17 od18 an18 od19 an19 od20 an20 od21 an21 od22 an22 od23 an23 od24 an24 od25 an25 od26 an26 od27 an27 od28 an28 od29 an29 od30 an30 od31 an31 od32 an32 od33 an33 od34 an34 od35 an35 od36 an36 od37 an37 od38 an38 od39 an39 od40 an40 od41 an41 od42 an42 od43 an43 od44 an44 od45 an45 od46 an46 od47 an47 : Option Addr} {sl0 sl1 sl2 sl3 sl4 sl5 sl6 sl7 sl8 sl9 sl10 sl11 sl12 sl13 sl14 sl15 sl16 sl17 sl18 sl19 sl20 sl21 sl22 sl23 sl24 sl25 sl26 sl27 sl28 sl29 sl30 sl31 sl32 sl33 sl34 sl35 sl36 sl37 sl38 sl39 sl40 sl41 sl42 sl43 sl44 sl45 sl46 sl47 : Array (Option Value)} {oc0 kV0 dc0 pm0 cd0 ct0 oc1 kV1 dc1 pm1 cd1 ct1 oc2 kV2 dc2 pm2 cd2 ct2 oc3 kV3 dc3 pm3 cd3 ct3 oc4 kV4 dc4 pm4 cd4 ct4 oc5 kV5 dc5 pm5 cd5 ct5 oc6 kV6 dc6 pm6 cd6 ct6 oc7 kV7 dc7 pm7 cd7 ct7 oc8 kV8 dc8 pm8 cd8 ct8 oc9 kV9 dc9 pm9 cd9 ct9 oc10 kV10 dc10 pm10 cd10 ct10 oc11 kV11 dc11 pm11 cd11 ct11 oc12 kV12 dc12 pm12 cd12 ct12 oc13 kV13 dc13 pm13 cd13 ct13 oc14 kV14 dc14 pm14 cd14 ct14 oc15 kV15 dc15 pm15 cd15 ct15 oc16 dc16 pm16 cd16 ct16 oc17 kV17 dc17 pm17 cd17 ct17 oc18 kV18 dc18 pm18 cd18 ct18 oc19 kV19 dc19 pm19 cd19 ct19 oc20 kV20 dc20 pm20 cd20 ct20 oc21 kV21 dc21 pm21 cd21 ct21 oc22 kV22 dc22 pm22 cd22 ct22 oc23 kV23 dc23 pm23 cd23 ct23 oc24 kV24 dc24 pm24 cd24 ct24 oc25 kV25 dc25 pm25 cd25 ct25 oc26 kV26 dc26 pm26 cd26 ct26 oc27 kV27 dc27 pm27 cd27 ct27 oc28 kV28 dc28 pm28 cd28 ct28 oc29 kV29 dc29 pm29 cd29 ct29 oc30 kV30 dc30 pm30 cd30 ct30 oc31 kV31 dc31 pm31 cd31 ct31 oc32 kV32 dc32 pm32 cd32 ct32 oc33 kV33 dc33 pm33 cd33 ct33 oc34 kV34 dc34 pm34 cd34 ct34 oc35 kV35 dc35 pm35 cd35 ct35 oc36 kV36 dc36 pm36 cd36 ct36 oc37 kV37 dc37 pm37 cd37 ct37 oc38 kV38 dc38 pm38 cd38 ct38 oc39 kV39 dc39 pm39 cd39 ct39 oc40 kV40 dc40 pm40 cd40 ct40 oc41 kV41 dc41 pm41 cd41 ct41 oc42 kV42 dc42 pm42 cd42 ct42 oc43 kV43 dc43 pm43 cd43 ct43 oc44 kV44 dc44 pm44 cd44 ct44 oc45 kV45 dc45 pm45 cd45 ct45 oc46 kV46 dc46 pm46 cd46 ct46 oc47 kV47 dc47 pm47 cd47 ct47 : Value}
    (b0 : PySem.W.nsIn K mainGlobals "Parts" = some (some (.ref C0)))
    (b1 : PySem.W.nsIn K mainGlobals "Part" = some (some (.ref C1)))
    (b2 : PySem.W.nsIn K mainGlobals "Cell" = some (some (.ref C2)))
    (b3 : PySem.W.nsIn K mainGlobals "Box" = some (some (.ref C3)))
    (b4 : PySem.W.nsIn K mainGlobals "Norms" = some (some (.ref C4)))
    (b5 : PySem.W.nsIn K mainGlobals "Differ" = some (some (.ref C5)))
    (b6 : PySem.W.nsIn K mainGlobals "Fact" = some (some (.ref C6)))
    (b7 : PySem.W.nsIn K mainGlobals "Record" = some (some (.ref C7)))
    (pg0 : PySem.W.plainGet K C0 Str.empty = true)
    (hd0 : PySem.W.hasDictIn K C0 = true)
    (po0 : PySem.W.plainOver K C0 = true)
    (sa0 : PySem.W.findIn K (.ref C0) "__setattr__" = some (some (.builtin "object.__setattr__")))
    (ha0 : PySem.W.findIn K (.ref C0) "__class__" = some (some (.builtin "object.__class__")))
    (hm0 : PySem.W.mroIn K C0 (.type "object") = some true)
    (mk0 : PySem.W.makesIn K C0 = true)
    (kc0 : PySem.W.keepIn K (.ref C0) = true)
    (n0_0 : PySem.W.findIn K (.ref C0) "parts" = some none)
    (pg1 : PySem.W.plainGet K C1 Str.empty = true)
    (hd1 : PySem.W.hasDictIn K C1 = true)
    (po1 : PySem.W.plainOver K C1 = true)
    (sa1 : PySem.W.findIn K (.ref C1) "__setattr__" = some (some (.builtin "object.__setattr__")))
    (ha1 : PySem.W.findIn K (.ref C1) "__class__" = some (some (.builtin "object.__class__")))
    (hm1 : PySem.W.mroIn K C1 (.type "object") = some true)
    (mk1 : PySem.W.makesIn K C1 = true)
    (kc1 : PySem.W.keepIn K (.ref C1) = true)
    (n1_0 : PySem.W.findIn K (.ref C1) "start" = some none)
    (n1_1 : PySem.W.findIn K (.ref C1) "centre" = some none)
    (n1_2 : PySem.W.findIn K (.ref C1) "radius" = some none)
    (pg2 : PySem.W.plainGet K C2 Str.empty = true)
    (hd2 : PySem.W.hasDictIn K C2 = true)
    (po2 : PySem.W.plainOver K C2 = true)
    (sa2 : PySem.W.findIn K (.ref C2) "__setattr__" = some (some (.builtin "object.__setattr__")))
    (ha2 : PySem.W.findIn K (.ref C2) "__class__" = some (some (.builtin "object.__class__")))
    (hm2 : PySem.W.mroIn K C2 (.type "object") = some true)
    (mk2 : PySem.W.makesIn K C2 = true)
    (kc2 : PySem.W.keepIn K (.ref C2) = true)
    (n2_0 : PySem.W.findIn K (.ref C2) "near" = some none)
    (n2_1 : PySem.W.findIn K (.ref C2) "rival" = some none)
    (pg3 : PySem.W.plainGet K C3 Str.empty = true)
    (hd3 : PySem.W.hasDictIn K C3 = true)
    (po3 : PySem.W.plainOver K C3 = true)
    (sa3 : PySem.W.findIn K (.ref C3) "__setattr__" = some (some (.builtin "object.__setattr__")))
    (ha3 : PySem.W.findIn K (.ref C3) "__class__" = some (some (.builtin "object.__class__")))
    (hm3 : PySem.W.mroIn K C3 (.type "object") = some true)
    (mk3 : PySem.W.makesIn K C3 = true)
    (kc3 : PySem.W.keepIn K (.ref C3) = true)
    (n3_0 : PySem.W.findIn K (.ref C3) "low" = some none)
    (n3_1 : PySem.W.findIn K (.ref C3) "high" = some none)
    (pg4 : PySem.W.plainGet K C4 Str.empty = true)
    (hd4 : PySem.W.hasDictIn K C4 = true)
    (po4 : PySem.W.plainOver K C4 = true)
    (sa4 : PySem.W.findIn K (.ref C4) "__setattr__" = some (some (.builtin "object.__setattr__")))
    (ha4 : PySem.W.findIn K (.ref C4) "__class__" = some (some (.builtin "object.__class__")))
    (hm4 : PySem.W.mroIn K C4 (.type "object") = some true)
    (mk4 : PySem.W.makesIn K C4 = true)
    (kc4 : PySem.W.keepIn K (.ref C4) = true)
    (n4_0 : PySem.W.findIn K (.ref C4) "low" = some none)
    (n4_1 : PySem.W.findIn K (.ref C4) "high" = some none)
    (pg5 : PySem.W.plainGet K C5 Str.empty = true)
    (hd5 : PySem.W.hasDictIn K C5 = true)
    (po5 : PySem.W.plainOver K C5 = true)
    (sa5 : PySem.W.findIn K (.ref C5) "__setattr__" = some (some (.builtin "object.__setattr__")))
    (ha5 : PySem.W.findIn K (.ref C5) "__class__" = some (some (.builtin "object.__class__")))
    (hm5 : PySem.W.mroIn K C5 (.type "object") = some true)
    (mk5 : PySem.W.makesIn K C5 = true)
    (kc5 : PySem.W.keepIn K (.ref C5) = true)
    (n5_0 : PySem.W.findIn K (.ref C5) "centre" = some none)
    (n5_1 : PySem.W.findIn K (.ref C5) "most" = some none)
    (pg6 : PySem.W.plainGet K C6 Str.empty = true)
    (hd6 : PySem.W.hasDictIn K C6 = true)
    (po6 : PySem.W.plainOver K C6 = true)
    (sa6 : PySem.W.findIn K (.ref C6) "__setattr__" = some (some (.builtin "object.__setattr__")))
    (ha6 : PySem.W.findIn K (.ref C6) "__class__" = some (some (.builtin "object.__class__")))
    (hm6 : PySem.W.mroIn K C6 (.type "object") = some true)
    (pg7 : PySem.W.plainGet K C7 Str.empty = true)
    (hd7 : PySem.W.hasDictIn K C7 = true)
    (po7 : PySem.W.plainOver K C7 = true)
    (sa7 : PySem.W.findIn K (.ref C7) "__setattr__" = some (some (.builtin "object.__setattr__")))
    (ha7 : PySem.W.findIn K (.ref C7) "__class__" = some (some (.builtin "object.__class__")))
    (hm7 : PySem.W.mroIn K C7 (.type "object") = some true)
    (mk7 : PySem.W.makesIn K C7 = true)
    (kc7 : PySem.W.keepIn K (.ref C7) = true)
    (n7_0 : PySem.W.findIn K (.ref C7) "name" = some none)
    (n7_1 : PySem.W.findIn K (.ref C7) "vector" = some none)
    (n7_2 : PySem.W.findIn K (.ref C7) "fields" = some none)
    (n7_3 : PySem.W.findIn K (.ref C7) "words" = some none)
    (hn : PySem.W.specialIn K (.builtin "object.__class__") "__get__" = some (some (.builtin "getset_descriptor.__get__")))
    (htk : PySem.W.takesIn K (.builtin "object.__class__") = some true)
    (nd : ([C0, C1, C2, C3, C4, C5, C6, C7] : List Addr).Nodup)
    (a0 : PySem.W.nsIn K mainGlobals "_law_row" = some (some (.ref f0)))
    (l0 : K.lookup f0 = some ⟨oc0, od0, .func (PySem.W.fnOf "_law_row" "_law_row" (defArgs s_law_row) (defBody s_law_row) (defScope s_law_row) .none kV0 dc0 pm0 an0 cd0 ct0), sl0⟩)
    (c0 : PySem.W.codeIn K cd0 "_law_row" = true)
    (k0 : PySem.W.keepIn K (.ref f0) = true)
    (a1 : PySem.W.nsIn K mainGlobals "_law_next" = some (some (.ref f1)))
    (l1 : K.lookup f1 = some ⟨oc1, od1, .func (PySem.W.fnOf "_law_next" "_law_next" (defArgs s_law_next) (defBody s_law_next) (defScope s_law_next) .none kV1 dc1 pm1 an1 cd1 ct1), sl1⟩)
    (c1 : PySem.W.codeIn K cd1 "_law_next" = true)
    (k1 : PySem.W.keepIn K (.ref f1) = true)
    (a2 : PySem.W.nsIn K mainGlobals "_law_vector" = some (some (.ref f2)))
    (l2 : K.lookup f2 = some ⟨oc2, od2, .func (PySem.W.fnOf "_law_vector" "_law_vector" (defArgs s_law_vector) (defBody s_law_vector) (defScope s_law_vector) .none kV2 dc2 pm2 an2 cd2 ct2), sl2⟩)
    (c2 : PySem.W.codeIn K cd2 "_law_vector" = true)
    (k2 : PySem.W.keepIn K (.ref f2) = true)
    (a3 : PySem.W.nsIn K mainGlobals "_law_bits" = some (some (.ref f3)))
    (l3 : K.lookup f3 = some ⟨oc3, od3, .func (PySem.W.fnOf "_law_bits" "_law_bits" (defArgs s_law_bits) (defBody s_law_bits) (defScope s_law_bits) .none kV3 dc3 pm3 an3 cd3 ct3), sl3⟩)
    (c3 : PySem.W.codeIn K cd3 "_law_bits" = true)
    (k3 : PySem.W.keepIn K (.ref f3) = true)
    (a4 : PySem.W.nsIn K mainGlobals "_law_distance" = some (some (.ref f4)))
    (l4 : K.lookup f4 = some ⟨oc4, od4, .func (PySem.W.fnOf "_law_distance" "_law_distance" (defArgs s_law_distance) (defBody s_law_distance) (defScope s_law_distance) .none kV4 dc4 pm4 an4 cd4 ct4), sl4⟩)
    (c4 : PySem.W.codeIn K cd4 "_law_distance" = true)
    (k4 : PySem.W.keepIn K (.ref f4) = true)
    (a5 : PySem.W.nsIn K mainGlobals "_law_true_parts" = some (some (.ref f5)))
    (l5 : K.lookup f5 = some ⟨oc5, od5, .func (PySem.W.fnOf "_law_true_parts" "_law_true_parts" (defArgs s_law_true_parts) (defBody s_law_true_parts) (defScope s_law_true_parts) .none kV5 dc5 pm5 an5 cd5 ct5), sl5⟩)
    (c5 : PySem.W.codeIn K cd5 "_law_true_parts" = true)
    (k5 : PySem.W.keepIn K (.ref f5) = true)
    (a6 : PySem.W.nsIn K mainGlobals "_law_inner" = some (some (.ref f6)))
    (l6 : K.lookup f6 = some ⟨oc6, od6, .func (PySem.W.fnOf "_law_inner" "_law_inner" (defArgs s_law_inner) (defBody s_law_inner) (defScope s_law_inner) .none kV6 dc6 pm6 an6 cd6 ct6), sl6⟩)
    (c6 : PySem.W.codeIn K cd6 "_law_inner" = true)
    (k6 : PySem.W.keepIn K (.ref f6) = true)
    (a7 : PySem.W.nsIn K mainGlobals "_law_differing" = some (some (.ref f7)))
    (l7 : K.lookup f7 = some ⟨oc7, od7, .func (PySem.W.fnOf "_law_differing" "_law_differing" (defArgs s_law_differing) (defBody s_law_differing) (defScope s_law_differing) .none kV7 dc7 pm7 an7 cd7 ct7), sl7⟩)
    (c7 : PySem.W.codeIn K cd7 "_law_differing" = true)
    (k7 : PySem.W.keepIn K (.ref f7) = true)
    (a8 : PySem.W.nsIn K mainGlobals "_law_true_fact" = some (some (.ref f8)))
    (l8 : K.lookup f8 = some ⟨oc8, od8, .func (PySem.W.fnOf "_law_true_fact" "_law_true_fact" (defArgs s_law_true_fact) (defBody s_law_true_fact) (defScope s_law_true_fact) .none kV8 dc8 pm8 an8 cd8 ct8), sl8⟩)
    (c8 : PySem.W.codeIn K cd8 "_law_true_fact" = true)
    (k8 : PySem.W.keepIn K (.ref f8) = true)
    (a9 : PySem.W.findIn K (.ref C0) "__init__" = some (some (.ref f9)))
    (i9 : PySem.W.isFn K (.ref f9) = true)
    (l9 : K.lookup f9 = some ⟨oc9, od9, .func (PySem.W.fnOf "__init__" "Parts.__init__" (defArgs s_Parts_init) (defBody s_Parts_init) (defScope s_Parts_init) .none kV9 dc9 pm9 an9 cd9 ct9), sl9⟩)
    (c9 : PySem.W.codeIn K cd9 "Parts.__init__" = true)
    (k9 : PySem.W.keepIn K (.ref f9) = true)
    (a10 : PySem.W.findIn K (.ref C1) "__init__" = some (some (.ref f10)))
    (i10 : PySem.W.isFn K (.ref f10) = true)
    (l10 : K.lookup f10 = some ⟨oc10, od10, .func (PySem.W.fnOf "__init__" "Part.__init__" (defArgs s_Part_init) (defBody s_Part_init) (defScope s_Part_init) .none kV10 dc10 pm10 an10 cd10 ct10), sl10⟩)
    (c10 : PySem.W.codeIn K cd10 "Part.__init__" = true)
    (k10 : PySem.W.keepIn K (.ref f10) = true)
    (a11 : PySem.W.findIn K (.ref C2) "__init__" = some (some (.ref f11)))
    (i11 : PySem.W.isFn K (.ref f11) = true)
    (l11 : K.lookup f11 = some ⟨oc11, od11, .func (PySem.W.fnOf "__init__" "Cell.__init__" (defArgs s_Cell_init) (defBody s_Cell_init) (defScope s_Cell_init) .none kV11 dc11 pm11 an11 cd11 ct11), sl11⟩)
    (c11 : PySem.W.codeIn K cd11 "Cell.__init__" = true)
    (k11 : PySem.W.keepIn K (.ref f11) = true)
    (a12 : PySem.W.findIn K (.ref C3) "__init__" = some (some (.ref f12)))
    (i12 : PySem.W.isFn K (.ref f12) = true)
    (l12 : K.lookup f12 = some ⟨oc12, od12, .func (PySem.W.fnOf "__init__" "Box.__init__" (defArgs s_Box_init) (defBody s_Box_init) (defScope s_Box_init) .none kV12 dc12 pm12 an12 cd12 ct12), sl12⟩)
    (c12 : PySem.W.codeIn K cd12 "Box.__init__" = true)
    (k12 : PySem.W.keepIn K (.ref f12) = true)
    (a13 : PySem.W.findIn K (.ref C4) "__init__" = some (some (.ref f13)))
    (i13 : PySem.W.isFn K (.ref f13) = true)
    (l13 : K.lookup f13 = some ⟨oc13, od13, .func (PySem.W.fnOf "__init__" "Norms.__init__" (defArgs s_Norms_init) (defBody s_Norms_init) (defScope s_Norms_init) .none kV13 dc13 pm13 an13 cd13 ct13), sl13⟩)
    (c13 : PySem.W.codeIn K cd13 "Norms.__init__" = true)
    (k13 : PySem.W.keepIn K (.ref f13) = true)
    (a14 : PySem.W.findIn K (.ref C5) "__init__" = some (some (.ref f14)))
    (i14 : PySem.W.isFn K (.ref f14) = true)
    (l14 : K.lookup f14 = some ⟨oc14, od14, .func (PySem.W.fnOf "__init__" "Differ.__init__" (defArgs s_Differ_init) (defBody s_Differ_init) (defScope s_Differ_init) .none kV14 dc14 pm14 an14 cd14 ct14), sl14⟩)
    (c14 : PySem.W.codeIn K cd14 "Differ.__init__" = true)
    (k14 : PySem.W.keepIn K (.ref f14) = true)
    (a15 : PySem.W.nsIn K mainGlobals "_law_made" = some (some (.ref f15)))
    (l15 : K.lookup f15 = some ⟨oc15, od15, .func (PySem.W.fnOf "_law_made" "_law_made" (defArgs s_law_made) (defBody s_law_made) (defScope s_law_made) .none kV15 dc15 pm15 an15 cd15 ct15), sl15⟩)
    (c15 : PySem.W.codeIn K cd15 "_law_made" = true)
    (k15 : PySem.W.keepIn K (.ref f15) = true)
    (a16 : PySem.W.findIn K (.ref C7) "__init__" = some (some (.ref f16)))
    (i16 : PySem.W.isFn K (.ref f16) = true)
    (l16 : K.lookup f16 = some ⟨oc16, od16, .func (PySem.W.fnOf "__init__" "Record.__init__" (defArgs s_Record_init) (defBody s_Record_init) (defScope s_Record_init) .none (.ref kD16) dc16 pm16 an16 cd16 ct16), sl16⟩)
    (c16 : PySem.W.codeIn K cd16 "Record.__init__" = true)
    (k16 : PySem.W.keepIn K (.ref f16) = true)
    (a17 : PySem.W.findIn K (.ref C1) "after" = some (some (.ref p17)))
    (pa17 : PySem.W.specialIn K (.ref p17) "__get__" = some (some (.builtin "property.__get__")))
    (pb17 : PySem.W.takesIn K (.ref p17) = some true)
    (pc17 : PySem.W.recIn K p17 "property" = some (.ref f17 :: rest17))
    (l17 : K.lookup f17 = some ⟨oc17, od17, .func (PySem.W.fnOf "after" "Part.after" (defArgs s_Part_after) (defBody s_Part_after) (defScope s_Part_after) .none kV17 dc17 pm17 an17 cd17 ct17), sl17⟩)
    (c17 : PySem.W.codeIn K cd17 "Part.after" = true)
    (k17 : PySem.W.keepIn K (.ref f17) = true)
    (a18 : PySem.W.findIn K (.ref C0) "fits" = some (some (.ref f18)))
    (i18 : PySem.W.isFn K (.ref f18) = true)
    (l18 : K.lookup f18 = some ⟨oc18, od18, .func (PySem.W.fnOf "fits" "Parts.fits" (defArgs s_Parts_fits) (defBody s_Parts_fits) (defScope s_Parts_fits) .none kV18 dc18 pm18 an18 cd18 ct18), sl18⟩)
    (c18 : PySem.W.codeIn K cd18 "Parts.fits" = true)
    (k18 : PySem.W.keepIn K (.ref f18) = true)
    (a19 : PySem.W.findIn K (.ref C1) "cut" = some (some (.ref f19)))
    (i19 : PySem.W.isFn K (.ref f19) = true)
    (l19 : K.lookup f19 = some ⟨oc19, od19, .func (PySem.W.fnOf "cut" "Part.cut" (defArgs s_Part_cut) (defBody s_Part_cut) (defScope s_Part_cut) .none kV19 dc19 pm19 an19 cd19 ct19), sl19⟩)
    (c19 : PySem.W.codeIn K cd19 "Part.cut" = true)
    (k19 : PySem.W.keepIn K (.ref f19) = true)
    (a20 : PySem.W.nsIn K mainGlobals "distance" = some (some (.ref f20)))
    (l20 : K.lookup f20 = some ⟨oc20, od20, .func (PySem.W.fnOf "distance" "distance" (defArgs s_distance) (defBody s_distance) (defScope s_distance) .none kV20 dc20 pm20 an20 cd20 ct20), sl20⟩)
    (c20 : PySem.W.codeIn K cd20 "distance" = true)
    (k20 : PySem.W.keepIn K (.ref f20) = true)
    (a21 : PySem.W.findIn K (.ref C0) "holds" = some (some (.ref f21)))
    (i21 : PySem.W.isFn K (.ref f21) = true)
    (l21 : K.lookup f21 = some ⟨oc21, od21, .func (PySem.W.fnOf "holds" "Parts.holds" (defArgs s_Parts_holds) (defBody s_Parts_holds) (defScope s_Parts_holds) .none kV21 dc21 pm21 an21 cd21 ct21), sl21⟩)
    (c21 : PySem.W.codeIn K cd21 "Parts.holds" = true)
    (k21 : PySem.W.keepIn K (.ref f21) = true)
    (a22 : PySem.W.findIn K (.ref C2) "fits" = some (some (.ref f22)))
    (i22 : PySem.W.isFn K (.ref f22) = true)
    (l22 : K.lookup f22 = some ⟨oc22, od22, .func (PySem.W.fnOf "fits" "Cell.fits" (defArgs s_Cell_fits) (defBody s_Cell_fits) (defScope s_Cell_fits) .none kV22 dc22 pm22 an22 cd22 ct22), sl22⟩)
    (c22 : PySem.W.codeIn K cd22 "Cell.fits" = true)
    (k22 : PySem.W.keepIn K (.ref f22) = true)
    (a23 : PySem.W.findIn K (.ref C2) "holds" = some (some (.ref f23)))
    (i23 : PySem.W.isFn K (.ref f23) = true)
    (l23 : K.lookup f23 = some ⟨oc23, od23, .func (PySem.W.fnOf "holds" "Cell.holds" (defArgs s_Cell_holds) (defBody s_Cell_holds) (defScope s_Cell_holds) .none kV23 dc23 pm23 an23 cd23 ct23), sl23⟩)
    (c23 : PySem.W.codeIn K cd23 "Cell.holds" = true)
    (k23 : PySem.W.keepIn K (.ref f23) = true)
    (a24 : PySem.W.findIn K (.ref C3) "fits" = some (some (.ref f24)))
    (i24 : PySem.W.isFn K (.ref f24) = true)
    (l24 : K.lookup f24 = some ⟨oc24, od24, .func (PySem.W.fnOf "fits" "Box.fits" (defArgs s_Box_fits) (defBody s_Box_fits) (defScope s_Box_fits) .none kV24 dc24 pm24 an24 cd24 ct24), sl24⟩)
    (c24 : PySem.W.codeIn K cd24 "Box.fits" = true)
    (k24 : PySem.W.keepIn K (.ref f24) = true)
    (a25 : PySem.W.findIn K (.ref C3) "holds" = some (some (.ref f25)))
    (i25 : PySem.W.isFn K (.ref f25) = true)
    (l25 : K.lookup f25 = some ⟨oc25, od25, .func (PySem.W.fnOf "holds" "Box.holds" (defArgs s_Box_holds) (defBody s_Box_holds) (defScope s_Box_holds) .none kV25 dc25 pm25 an25 cd25 ct25), sl25⟩)
    (c25 : PySem.W.codeIn K cd25 "Box.holds" = true)
    (k25 : PySem.W.keepIn K (.ref f25) = true)
    (a26 : PySem.W.nsIn K mainGlobals "inner" = some (some (.ref f26)))
    (l26 : K.lookup f26 = some ⟨oc26, od26, .func (PySem.W.fnOf "inner" "inner" (defArgs s_inner) (defBody s_inner) (defScope s_inner) .none kV26 dc26 pm26 an26 cd26 ct26), sl26⟩)
    (c26 : PySem.W.codeIn K cd26 "inner" = true)
    (k26 : PySem.W.keepIn K (.ref f26) = true)
    (a27 : PySem.W.nsIn K mainGlobals "norm" = some (some (.ref f27)))
    (l27 : K.lookup f27 = some ⟨oc27, od27, .func (PySem.W.fnOf "norm" "norm" (defArgs s_norm) (defBody s_norm) (defScope s_norm) .none kV27 dc27 pm27 an27 cd27 ct27), sl27⟩)
    (c27 : PySem.W.codeIn K cd27 "norm" = true)
    (k27 : PySem.W.keepIn K (.ref f27) = true)
    (a28 : PySem.W.findIn K (.ref C4) "holds" = some (some (.ref f28)))
    (i28 : PySem.W.isFn K (.ref f28) = true)
    (l28 : K.lookup f28 = some ⟨oc28, od28, .func (PySem.W.fnOf "holds" "Norms.holds" (defArgs s_Norms_holds) (defBody s_Norms_holds) (defScope s_Norms_holds) .none kV28 dc28 pm28 an28 cd28 ct28), sl28⟩)
    (c28 : PySem.W.codeIn K cd28 "Norms.holds" = true)
    (k28 : PySem.W.keepIn K (.ref f28) = true)
    (a29 : PySem.W.nsIn K mainGlobals "differing" = some (some (.ref f29)))
    (l29 : K.lookup f29 = some ⟨oc29, od29, .func (PySem.W.fnOf "differing" "differing" (defArgs s_differing) (defBody s_differing) (defScope s_differing) .none kV29 dc29 pm29 an29 cd29 ct29), sl29⟩)
    (c29 : PySem.W.codeIn K cd29 "differing" = true)
    (k29 : PySem.W.keepIn K (.ref f29) = true)
    (a30 : PySem.W.findIn K (.ref C5) "holds" = some (some (.ref f30)))
    (i30 : PySem.W.isFn K (.ref f30) = true)
    (l30 : K.lookup f30 = some ⟨oc30, od30, .func (PySem.W.fnOf "holds" "Differ.holds" (defArgs s_Differ_holds) (defBody s_Differ_holds) (defScope s_Differ_holds) .none kV30 dc30 pm30 an30 cd30 ct30), sl30⟩)
    (c30 : PySem.W.codeIn K cd30 "Differ.holds" = true)
    (k30 : PySem.W.keepIn K (.ref f30) = true)
    (a31 : PySem.W.findIn K (.ref C0) "apart" = some (some (.ref f31)))
    (i31 : PySem.W.isFn K (.ref f31) = true)
    (l31 : K.lookup f31 = some ⟨oc31, od31, .func (PySem.W.fnOf "apart" "Parts.apart" (defArgs s_Parts_apart) (defBody s_Parts_apart) (defScope s_Parts_apart) .none kV31 dc31 pm31 an31 cd31 ct31), sl31⟩)
    (c31 : PySem.W.codeIn K cd31 "Parts.apart" = true)
    (k31 : PySem.W.keepIn K (.ref f31) = true)
    (a32 : PySem.W.nsIn K mainGlobals "root" = some (some (.ref f32)))
    (l32 : K.lookup f32 = some ⟨oc32, od32, .func (PySem.W.fnOf "root" "root" (defArgs s_root) (defBody s_root) (defScope s_root) .none kV32 dc32 pm32 an32 cd32 ct32), sl32⟩)
    (c32 : PySem.W.codeIn K cd32 "root" = true)
    (k32 : PySem.W.keepIn K (.ref f32) = true)
    (a33 : PySem.W.nsIn K mainGlobals "gap" = some (some (.ref f33)))
    (l33 : K.lookup f33 = some ⟨oc33, od33, .func (PySem.W.fnOf "gap" "gap" (defArgs s_gap) (defBody s_gap) (defScope s_gap) .none kV33 dc33 pm33 an33 cd33 ct33), sl33⟩)
    (c33 : PySem.W.codeIn K cd33 "gap" = true)
    (k33 : PySem.W.keepIn K (.ref f33) = true)
    (a34 : PySem.W.findIn K (.ref C0) "least_distance" = some (some (.ref f34)))
    (i34 : PySem.W.isFn K (.ref f34) = true)
    (l34 : K.lookup f34 = some ⟨oc34, od34, .func (PySem.W.fnOf "least_distance" "Parts.least_distance" (defArgs s_Parts_least_distance) (defBody s_Parts_least_distance) (defScope s_Parts_least_distance) .none kV34 dc34 pm34 an34 cd34 ct34), sl34⟩)
    (c34 : PySem.W.codeIn K cd34 "Parts.least_distance" = true)
    (k34 : PySem.W.keepIn K (.ref f34) = true)
    (a35 : PySem.W.nsIn K mainGlobals "split" = some (some (.ref f35)))
    (l35 : K.lookup f35 = some ⟨oc35, od35, .func (PySem.W.fnOf "split" "split" (defArgs s_split) (defBody s_split) (defScope s_split) .none kV35 dc35 pm35 an35 cd35 ct35), sl35⟩)
    (c35 : PySem.W.codeIn K cd35 "split" = true)
    (k35 : PySem.W.keepIn K (.ref f35) = true)
    (a36 : PySem.W.findIn K (.ref C2) "least_distance" = some (some (.ref f36)))
    (i36 : PySem.W.isFn K (.ref f36) = true)
    (l36 : K.lookup f36 = some ⟨oc36, od36, .func (PySem.W.fnOf "least_distance" "Cell.least_distance" (defArgs s_Cell_least_distance) (defBody s_Cell_least_distance) (defScope s_Cell_least_distance) .none kV36 dc36 pm36 an36 cd36 ct36), sl36⟩)
    (c36 : PySem.W.codeIn K cd36 "Cell.least_distance" = true)
    (k36 : PySem.W.keepIn K (.ref f36) = true)
    (a37 : PySem.W.findIn K (.ref C3) "least_distance" = some (some (.ref f37)))
    (i37 : PySem.W.isFn K (.ref f37) = true)
    (l37 : K.lookup f37 = some ⟨oc37, od37, .func (PySem.W.fnOf "least_distance" "Box.least_distance" (defArgs s_Box_least_distance) (defBody s_Box_least_distance) (defScope s_Box_least_distance) .none kV37 dc37 pm37 an37 cd37 ct37), sl37⟩)
    (c37 : PySem.W.codeIn K cd37 "Box.least_distance" = true)
    (k37 : PySem.W.keepIn K (.ref f37) = true)
    (a38 : PySem.W.findIn K (.ref C4) "least_distance" = some (some (.ref f38)))
    (i38 : PySem.W.isFn K (.ref f38) = true)
    (l38 : K.lookup f38 = some ⟨oc38, od38, .func (PySem.W.fnOf "least_distance" "Norms.least_distance" (defArgs s_Norms_least_distance) (defBody s_Norms_least_distance) (defScope s_Norms_least_distance) .none kV38 dc38 pm38 an38 cd38 ct38), sl38⟩)
    (c38 : PySem.W.codeIn K cd38 "Norms.least_distance" = true)
    (k38 : PySem.W.keepIn K (.ref f38) = true)
    (a39 : PySem.W.findIn K (.ref C6) "least_distance" = some (some (.ref f39)))
    (i39 : PySem.W.isFn K (.ref f39) = true)
    (ai39_Differ : PySem.W.findIn K (.ref C5) "least_distance" = some (some (.ref f39)))
    (l39 : K.lookup f39 = some ⟨oc39, od39, .func (PySem.W.fnOf "least_distance" "Fact.least_distance" (defArgs s_Fact_least_distance) (defBody s_Fact_least_distance) (defScope s_Fact_least_distance) .none kV39 dc39 pm39 an39 cd39 ct39), sl39⟩)
    (c39 : PySem.W.codeIn K cd39 "Fact.least_distance" = true)
    (k39 : PySem.W.keepIn K (.ref f39) = true)
    (a40 : PySem.W.findIn K (.ref C6) "least_differing" = some (some (.ref f40)))
    (i40 : PySem.W.isFn K (.ref f40) = true)
    (ai40_Box : PySem.W.findIn K (.ref C3) "least_differing" = some (some (.ref f40)))
    (ai40_Cell : PySem.W.findIn K (.ref C2) "least_differing" = some (some (.ref f40)))
    (ai40_Norms : PySem.W.findIn K (.ref C4) "least_differing" = some (some (.ref f40)))
    (ai40_Parts : PySem.W.findIn K (.ref C0) "least_differing" = some (some (.ref f40)))
    (l40 : K.lookup f40 = some ⟨oc40, od40, .func (PySem.W.fnOf "least_differing" "Fact.least_differing" (defArgs s_Fact_least_differing) (defBody s_Fact_least_differing) (defScope s_Fact_least_differing) .none kV40 dc40 pm40 an40 cd40 ct40), sl40⟩)
    (c40 : PySem.W.codeIn K cd40 "Fact.least_differing" = true)
    (k40 : PySem.W.keepIn K (.ref f40) = true)
    (a41 : PySem.W.findIn K (.ref C5) "least_differing" = some (some (.ref f41)))
    (i41 : PySem.W.isFn K (.ref f41) = true)
    (l41 : K.lookup f41 = some ⟨oc41, od41, .func (PySem.W.fnOf "least_differing" "Differ.least_differing" (defArgs s_Differ_least_differing) (defBody s_Differ_least_differing) (defScope s_Differ_least_differing) .none kV41 dc41 pm41 an41 cd41 ct41), sl41⟩)
    (c41 : PySem.W.codeIn K cd41 "Differ.least_differing" = true)
    (k41 : PySem.W.keepIn K (.ref f41) = true)
    (a42 : PySem.W.findIn K (.ref C0) "covers" = some (some (.ref f42)))
    (i42 : PySem.W.isFn K (.ref f42) = true)
    (l42 : K.lookup f42 = some ⟨oc42, od42, .func (PySem.W.fnOf "covers" "Parts.covers" (defArgs s_Parts_covers) (defBody s_Parts_covers) (defScope s_Parts_covers) .none kV42 dc42 pm42 an42 cd42 ct42), sl42⟩)
    (c42 : PySem.W.codeIn K cd42 "Parts.covers" = true)
    (k42 : PySem.W.keepIn K (.ref f42) = true)
    (a43 : PySem.W.findIn K (.ref C0) "most_product" = some (some (.ref f43)))
    (i43 : PySem.W.isFn K (.ref f43) = true)
    (l43 : K.lookup f43 = some ⟨oc43, od43, .func (PySem.W.fnOf "most_product" "Parts.most_product" (defArgs s_Parts_most_product) (defBody s_Parts_most_product) (defScope s_Parts_most_product) .none kV43 dc43 pm43 an43 cd43 ct43), sl43⟩)
    (c43 : PySem.W.codeIn K cd43 "Parts.most_product" = true)
    (k43 : PySem.W.keepIn K (.ref f43) = true)
    (a44 : PySem.W.findIn K (.ref C6) "most_product" = some (some (.ref f44)))
    (i44 : PySem.W.isFn K (.ref f44) = true)
    (ai44_Cell : PySem.W.findIn K (.ref C2) "most_product" = some (some (.ref f44)))
    (ai44_Differ : PySem.W.findIn K (.ref C5) "most_product" = some (some (.ref f44)))
    (l44 : K.lookup f44 = some ⟨oc44, od44, .func (PySem.W.fnOf "most_product" "Fact.most_product" (defArgs s_Fact_most_product) (defBody s_Fact_most_product) (defScope s_Fact_most_product) .none kV44 dc44 pm44 an44 cd44 ct44), sl44⟩)
    (c44 : PySem.W.codeIn K cd44 "Fact.most_product" = true)
    (k44 : PySem.W.keepIn K (.ref f44) = true)
    (a45 : PySem.W.findIn K (.ref C3) "most_product" = some (some (.ref f45)))
    (i45 : PySem.W.isFn K (.ref f45) = true)
    (l45 : K.lookup f45 = some ⟨oc45, od45, .func (PySem.W.fnOf "most_product" "Box.most_product" (defArgs s_Box_most_product) (defBody s_Box_most_product) (defScope s_Box_most_product) .none kV45 dc45 pm45 an45 cd45 ct45), sl45⟩)
    (c45 : PySem.W.codeIn K cd45 "Box.most_product" = true)
    (k45 : PySem.W.keepIn K (.ref f45) = true)
    (a46 : PySem.W.findIn K (.ref C4) "most_product" = some (some (.ref f46)))
    (i46 : PySem.W.isFn K (.ref f46) = true)
    (l46 : K.lookup f46 = some ⟨oc46, od46, .func (PySem.W.fnOf "most_product" "Norms.most_product" (defArgs s_Norms_most_product) (defBody s_Norms_most_product) (defScope s_Norms_most_product) .none kV46 dc46 pm46 an46 cd46 ct46), sl46⟩)
    (c46 : PySem.W.codeIn K cd46 "Norms.most_product" = true)
    (k46 : PySem.W.keepIn K (.ref f46) = true)
    (a47 : PySem.W.nsIn K mainGlobals "law" = some (some (.ref f47)))
    (l47 : K.lookup f47 = some ⟨oc47, od47, .func (PySem.W.fnOf "law" "law" (defArgs s_law) (defBody s_law) (defScope s_law) .none kV47 dc47 pm47 an47 cd47 ct47), sl47⟩)
    (c47 : PySem.W.codeIn K cd47 "law" = true)
    (k47 : PySem.W.keepIn K (.ref f47) = true)
    (kd16_fields : PySem.W.nsIn K kD16 "fields" = some (some (.ref kT16_fields)))
    (kx16_fields : K.lookup kT16_fields = some ⟨.type "tuple", ddkT16_fields, .seq ([] : List Value).toArray nnkT16_fields, sskT16_fields⟩)
    (kd16_words : PySem.W.nsIn K kD16 "words" = some (some (.ref kT16_words)))
    (kx16_words : K.lookup kT16_words = some ⟨.type "tuple", ddkT16_words, .seq ([] : List Value).toArray nnkT16_words, sskT16_words⟩)
    (z0 : PySem.W.nsIn K mainGlobals "len" = some none)
    (z1 : PySem.W.nsIn K mainGlobals "int" = some none)
    (z2 : PySem.W.nsIn K mainGlobals "range" = some none)
    (z3 : PySem.W.nsIn K mainGlobals "min" = some none)
    (z4 : PySem.W.nsIn K mainGlobals "max" = some none)
    (z5 : PySem.W.nsIn K mainGlobals "list" = some none)
    (z6 : PySem.W.nsIn K mainGlobals "tuple" = some none)
    (z7 : PySem.W.nsIn K mainGlobals "zip" = some none)
    : ∃ fd : FuncData, (∀ (s : Shared) (v : Value), BindsTo s fd ⟨[v], []⟩ [("_law_script", v)]) ∧ ∀ base : Heap, K.In base → base.Ns mainGlobals mg → FnOk l.prog w K mg base CX0 6 fa fd ["_law_script"] (sp_law K) := by
  have e := hfa.symm.trans (PySem.W.mg_of X G a47)
  cases e
  have m_len := PySem.W.mg_none_of X G z0
  have m_int := PySem.W.mg_none_of X G z1
  have m_range := PySem.W.mg_none_of X G z2
  have m_min := PySem.W.mg_none_of X G z3
  have m_max := PySem.W.mg_none_of X G z4
  have m_list := PySem.W.mg_none_of X G z5
  have m_tuple := PySem.W.mg_none_of X G z6
  have m_zip := PySem.W.mg_none_of X G z7
  have F0 := fun_mk (st := s_law_row) l0 c0 k0
  have F1 := fun_mk (st := s_law_next) l1 c1 k1
  have F2 := fun_mk (st := s_law_vector) l2 c2 k2
  have F3 := fun_mk (st := s_law_bits) l3 c3 k3
  have F4 := fun_mk (st := s_law_distance) l4 c4 k4
  have F5 := fun_mk (st := s_law_true_parts) l5 c5 k5
  have F6 := fun_mk (st := s_law_inner) l6 c6 k6
  have F7 := fun_mk (st := s_law_differing) l7 c7 k7
  have F8 := fun_mk (st := s_law_true_fact) l8 c8 k8
  have F9 := fun_mk (st := s_Parts_init) l9 c9 k9
  have F10 := fun_mk (st := s_Part_init) l10 c10 k10
  have F11 := fun_mk (st := s_Cell_init) l11 c11 k11
  have F12 := fun_mk (st := s_Box_init) l12 c12 k12
  have F13 := fun_mk (st := s_Norms_init) l13 c13 k13
  have F14 := fun_mk (st := s_Differ_init) l14 c14 k14
  have F15 := fun_mk (st := s_law_made) l15 c15 k15
  have F16 := fun_mk (st := s_Record_init) l16 c16 k16
  have F17 := fun_mk (st := s_Part_after) l17 c17 k17
  have F18 := fun_mk (st := s_Parts_fits) l18 c18 k18
  have F19 := fun_mk (st := s_Part_cut) l19 c19 k19
  have F20 := fun_mk (st := s_distance) l20 c20 k20
  have F21 := fun_mk (st := s_Parts_holds) l21 c21 k21
  have F22 := fun_mk (st := s_Cell_fits) l22 c22 k22
  have F23 := fun_mk (st := s_Cell_holds) l23 c23 k23
  have F24 := fun_mk (st := s_Box_fits) l24 c24 k24
  have F25 := fun_mk (st := s_Box_holds) l25 c25 k25
  have F26 := fun_mk (st := s_inner) l26 c26 k26
  have F27 := fun_mk (st := s_norm) l27 c27 k27
  have F28 := fun_mk (st := s_Norms_holds) l28 c28 k28
  have F29 := fun_mk (st := s_differing) l29 c29 k29
  have F30 := fun_mk (st := s_Differ_holds) l30 c30 k30
  have F31 := fun_mk (st := s_Parts_apart) l31 c31 k31
  have F32 := fun_mk (st := s_root) l32 c32 k32
  have F33 := fun_mk (st := s_gap) l33 c33 k33
  have F34 := fun_mk (st := s_Parts_least_distance) l34 c34 k34
  have F35 := fun_mk (st := s_split) l35 c35 k35
  have F36 := fun_mk (st := s_Cell_least_distance) l36 c36 k36
  have F37 := fun_mk (st := s_Box_least_distance) l37 c37 k37
  have F38 := fun_mk (st := s_Norms_least_distance) l38 c38 k38
  have F39 := fun_mk (st := s_Fact_least_distance) l39 c39 k39
  have F40 := fun_mk (st := s_Fact_least_differing) l40 c40 k40
  have F41 := fun_mk (st := s_Differ_least_differing) l41 c41 k41
  have F42 := fun_mk (st := s_Parts_covers) l42 c42 k42
  have F43 := fun_mk (st := s_Parts_most_product) l43 c43 k43
  have F44 := fun_mk (st := s_Fact_most_product) l44 c44 k44
  have F45 := fun_mk (st := s_Box_most_product) l45 c45 k45
  have F46 := fun_mk (st := s_Norms_most_product) l46 c46 k46
  have F47 := fun_mk (st := s_law) l47 c47 k47
  have O_Parts : ClsOk K (cEnv C0 C1 C2 C3 C4 C5 C6 C7) "Parts" ["parts"] := ⟨⟨pg0, hd0, po0, sa0⟩, na_of (List.forall_mem_cons.mpr ⟨n0_0, (fun _ h => nomatch h)⟩), ha0, hn, htk, hm0, (fun _ h => nomatch h), (fun _ h => nomatch h), (by show _ ∈ (["Parts", "Part", "Cell", "Box", "Norms", "Differ", "Fact", "Record"] : List Str); simp), fun y hy e => lk_inj (l := [("Parts", C0), ("Part", C1), ("Cell", C2), ("Box", C3), ("Norms", C4), ("Differ", C5), ("Fact", C6), ("Record", C7)]) (show (["Parts", "Part", "Cell", "Box", "Norms", "Differ", "Fact", "Record"] : List Str).Nodup by decide) nd (by show _ ∈ (["Parts", "Part", "Cell", "Box", "Norms", "Differ", "Fact", "Record"] : List Str); simp) hy e⟩
  have C_Parts : ClsF K mg (cEnv C0 C1 C2 C3 C4 C5 C6 C7) "Parts" ["parts"] := ⟨O_Parts, fun h => absurd h (by show _ ∉ ([] : List Str); decide +kernel), PySem.W.mg_of X G b0⟩
  have O_Part : ClsOk K (cEnv C0 C1 C2 C3 C4 C5 C6 C7) "Part" ["start", "centre", "radius"] := ⟨⟨pg1, hd1, po1, sa1⟩, na_of (List.forall_mem_cons.mpr ⟨n1_0, (List.forall_mem_cons.mpr ⟨n1_1, (List.forall_mem_cons.mpr ⟨n1_2, (fun _ h => nomatch h)⟩)⟩)⟩), ha1, hn, htk, hm1, (fun _ h => nomatch h), (fun _ h => nomatch h), (by show _ ∈ (["Parts", "Part", "Cell", "Box", "Norms", "Differ", "Fact", "Record"] : List Str); simp), fun y hy e => lk_inj (l := [("Parts", C0), ("Part", C1), ("Cell", C2), ("Box", C3), ("Norms", C4), ("Differ", C5), ("Fact", C6), ("Record", C7)]) (show (["Parts", "Part", "Cell", "Box", "Norms", "Differ", "Fact", "Record"] : List Str).Nodup by decide) nd (by show _ ∈ (["Parts", "Part", "Cell", "Box", "Norms", "Differ", "Fact", "Record"] : List Str); simp) hy e⟩
  have C_Part : ClsF K mg (cEnv C0 C1 C2 C3 C4 C5 C6 C7) "Part" ["start", "centre", "radius"] := ⟨O_Part, fun h => absurd h (by show _ ∉ ([] : List Str); decide +kernel), PySem.W.mg_of X G b1⟩
  have O_Cell : ClsOk K (cEnv C0 C1 C2 C3 C4 C5 C6 C7) "Cell" ["near", "rival"] := ⟨⟨pg2, hd2, po2, sa2⟩, na_of (List.forall_mem_cons.mpr ⟨n2_0, (List.forall_mem_cons.mpr ⟨n2_1, (fun _ h => nomatch h)⟩)⟩), ha2, hn, htk, hm2, (fun _ h => nomatch h), (fun _ h => nomatch h), (by show _ ∈ (["Parts", "Part", "Cell", "Box", "Norms", "Differ", "Fact", "Record"] : List Str); simp), fun y hy e => lk_inj (l := [("Parts", C0), ("Part", C1), ("Cell", C2), ("Box", C3), ("Norms", C4), ("Differ", C5), ("Fact", C6), ("Record", C7)]) (show (["Parts", "Part", "Cell", "Box", "Norms", "Differ", "Fact", "Record"] : List Str).Nodup by decide) nd (by show _ ∈ (["Parts", "Part", "Cell", "Box", "Norms", "Differ", "Fact", "Record"] : List Str); simp) hy e⟩
  have C_Cell : ClsF K mg (cEnv C0 C1 C2 C3 C4 C5 C6 C7) "Cell" ["near", "rival"] := ⟨O_Cell, fun h => absurd h (by show _ ∉ ([] : List Str); decide +kernel), PySem.W.mg_of X G b2⟩
  have O_Box : ClsOk K (cEnv C0 C1 C2 C3 C4 C5 C6 C7) "Box" ["low", "high"] := ⟨⟨pg3, hd3, po3, sa3⟩, na_of (List.forall_mem_cons.mpr ⟨n3_0, (List.forall_mem_cons.mpr ⟨n3_1, (fun _ h => nomatch h)⟩)⟩), ha3, hn, htk, hm3, (fun _ h => nomatch h), (fun _ h => nomatch h), (by show _ ∈ (["Parts", "Part", "Cell", "Box", "Norms", "Differ", "Fact", "Record"] : List Str); simp), fun y hy e => lk_inj (l := [("Parts", C0), ("Part", C1), ("Cell", C2), ("Box", C3), ("Norms", C4), ("Differ", C5), ("Fact", C6), ("Record", C7)]) (show (["Parts", "Part", "Cell", "Box", "Norms", "Differ", "Fact", "Record"] : List Str).Nodup by decide) nd (by show _ ∈ (["Parts", "Part", "Cell", "Box", "Norms", "Differ", "Fact", "Record"] : List Str); simp) hy e⟩
  have C_Box : ClsF K mg (cEnv C0 C1 C2 C3 C4 C5 C6 C7) "Box" ["low", "high"] := ⟨O_Box, fun h => absurd h (by show _ ∉ ([] : List Str); decide +kernel), PySem.W.mg_of X G b3⟩
  have O_Norms : ClsOk K (cEnv C0 C1 C2 C3 C4 C5 C6 C7) "Norms" ["low", "high"] := ⟨⟨pg4, hd4, po4, sa4⟩, na_of (List.forall_mem_cons.mpr ⟨n4_0, (List.forall_mem_cons.mpr ⟨n4_1, (fun _ h => nomatch h)⟩)⟩), ha4, hn, htk, hm4, (fun _ h => nomatch h), (fun _ h => nomatch h), (by show _ ∈ (["Parts", "Part", "Cell", "Box", "Norms", "Differ", "Fact", "Record"] : List Str); simp), fun y hy e => lk_inj (l := [("Parts", C0), ("Part", C1), ("Cell", C2), ("Box", C3), ("Norms", C4), ("Differ", C5), ("Fact", C6), ("Record", C7)]) (show (["Parts", "Part", "Cell", "Box", "Norms", "Differ", "Fact", "Record"] : List Str).Nodup by decide) nd (by show _ ∈ (["Parts", "Part", "Cell", "Box", "Norms", "Differ", "Fact", "Record"] : List Str); simp) hy e⟩
  have C_Norms : ClsF K mg (cEnv C0 C1 C2 C3 C4 C5 C6 C7) "Norms" ["low", "high"] := ⟨O_Norms, fun h => absurd h (by show _ ∉ ([] : List Str); decide +kernel), PySem.W.mg_of X G b4⟩
  have O_Differ : ClsOk K (cEnv C0 C1 C2 C3 C4 C5 C6 C7) "Differ" ["centre", "most"] := ⟨⟨pg5, hd5, po5, sa5⟩, na_of (List.forall_mem_cons.mpr ⟨n5_0, (List.forall_mem_cons.mpr ⟨n5_1, (fun _ h => nomatch h)⟩)⟩), ha5, hn, htk, hm5, (fun _ h => nomatch h), (fun _ h => nomatch h), (by show _ ∈ (["Parts", "Part", "Cell", "Box", "Norms", "Differ", "Fact", "Record"] : List Str); simp), fun y hy e => lk_inj (l := [("Parts", C0), ("Part", C1), ("Cell", C2), ("Box", C3), ("Norms", C4), ("Differ", C5), ("Fact", C6), ("Record", C7)]) (show (["Parts", "Part", "Cell", "Box", "Norms", "Differ", "Fact", "Record"] : List Str).Nodup by decide) nd (by show _ ∈ (["Parts", "Part", "Cell", "Box", "Norms", "Differ", "Fact", "Record"] : List Str); simp) hy e⟩
  have C_Differ : ClsF K mg (cEnv C0 C1 C2 C3 C4 C5 C6 C7) "Differ" ["centre", "most"] := ⟨O_Differ, fun h => absurd h (by show _ ∉ ([] : List Str); decide +kernel), PySem.W.mg_of X G b5⟩
  have O_Fact : ClsOk K (cEnv C0 C1 C2 C3 C4 C5 C6 C7) "Fact" [] := ⟨⟨pg6, hd6, po6, sa6⟩, na_of (fun _ h => nomatch h), ha6, hn, htk, hm6, (fun _ h => nomatch h), (fun _ h => nomatch h), (by show _ ∈ (["Parts", "Part", "Cell", "Box", "Norms", "Differ", "Fact", "Record"] : List Str); simp), fun y hy e => lk_inj (l := [("Parts", C0), ("Part", C1), ("Cell", C2), ("Box", C3), ("Norms", C4), ("Differ", C5), ("Fact", C6), ("Record", C7)]) (show (["Parts", "Part", "Cell", "Box", "Norms", "Differ", "Fact", "Record"] : List Str).Nodup by decide) nd (by show _ ∈ (["Parts", "Part", "Cell", "Box", "Norms", "Differ", "Fact", "Record"] : List Str); simp) hy e⟩
  have C_Fact : ClsF K mg (cEnv C0 C1 C2 C3 C4 C5 C6 C7) "Fact" [] := ⟨O_Fact, fun h => absurd h (by show _ ∉ ([] : List Str); decide +kernel), PySem.W.mg_of X G b6⟩
  have O_Record : ClsOk K (cEnv C0 C1 C2 C3 C4 C5 C6 C7) "Record" ["name", "vector", "fields", "words"] := ⟨⟨pg7, hd7, po7, sa7⟩, na_of (List.forall_mem_cons.mpr ⟨n7_0, (List.forall_mem_cons.mpr ⟨n7_1, (List.forall_mem_cons.mpr ⟨n7_2, (List.forall_mem_cons.mpr ⟨n7_3, (fun _ h => nomatch h)⟩)⟩)⟩)⟩), ha7, hn, htk, hm7, (fun _ h => nomatch h), (fun _ h => nomatch h), (by show _ ∈ (["Parts", "Part", "Cell", "Box", "Norms", "Differ", "Fact", "Record"] : List Str); simp), fun y hy e => lk_inj (l := [("Parts", C0), ("Part", C1), ("Cell", C2), ("Box", C3), ("Norms", C4), ("Differ", C5), ("Fact", C6), ("Record", C7)]) (show (["Parts", "Part", "Cell", "Box", "Norms", "Differ", "Fact", "Record"] : List Str).Nodup by decide) nd (by show _ ∈ (["Parts", "Part", "Cell", "Box", "Norms", "Differ", "Fact", "Record"] : List Str); simp) hy e⟩
  have C_Record : ClsF K mg (cEnv C0 C1 C2 C3 C4 C5 C6 C7) "Record" ["name", "vector", "fields", "words"] := ⟨O_Record, fun h => absurd h (by show _ ∉ ([] : List Str); decide +kernel), PySem.W.mg_of X G b7⟩
  refine ⟨PySem.W.fnOf "law" "law" (defArgs s_law) (defBody s_law) (defScope s_law) .none kV47 dc47 pm47 an47 cd47 ct47, fun s v => .of_eq rfl, fun base _ _ => ?_⟩
  have D_law_row : Dfn l.prog w K mg base 1 "_law_row" ["_law_script", "_law_k"] (sp_law_row K) := ⟨_, _, PySem.W.mg_of X G a0, F0.kp, F0.binds (ps := ["_law_script", "_law_k"]) (fun _ _ _ _ _ _ us hl => match us, hl with | [_, _], _ => rfl), ok_law_row m_len m_int F0⟩
  have D_law_next : Dfn l.prog w K mg base 2 "_law_next" ["_law_state", "_law_many"] (sp_law_next K) := ⟨_, _, PySem.W.mg_of X G a1, F1.kp, F1.binds (ps := ["_law_state", "_law_many"]) (fun _ _ _ _ _ _ us hl => match us, hl with | [_, _], _ => rfl), ok_law_next D_law_row m_int F1⟩
  have D_law_vector : Dfn l.prog w K mg base 3 "_law_vector" ["_law_state", "_law_size"] (sp_law_vector K (cEnv C0 C1 C2 C3 C4 C5 C6 C7)) := ⟨_, _, PySem.W.mg_of X G a2, F2.kp, F2.binds (ps := ["_law_state", "_law_size"]) (fun _ _ _ _ _ _ us hl => match us, hl with | [_, _], _ => rfl), ok_law_vector D_law_next m_range F2⟩
  have D_law_bits : Dfn l.prog w K mg base 1 "_law_bits" ["_law_vector_here"] (sp_law_bits K (cEnv C0 C1 C2 C3 C4 C5 C6 C7)) := ⟨_, _, PySem.W.mg_of X G a3, F3.kp, F3.binds (ps := ["_law_vector_here"]) (fun _ _ _ _ _ _ us hl => match us, hl with | [_], _ => rfl), ok_law_bits m_int F3⟩
  have D_law_distance : Dfn l.prog w K mg base 1 "_law_distance" ["_law_a", "_law_b"] (sp_law_distance K (cEnv C0 C1 C2 C3 C4 C5 C6 C7)) := ⟨_, _, PySem.W.mg_of X G a4, F4.kp, F4.binds (ps := ["_law_a", "_law_b"]) (fun _ _ _ _ _ _ us hl => match us, hl with | [_, _], _ => rfl), ok_law_distance m_len m_range F4⟩
  have D_law_true_parts : Dfn l.prog w K mg base 3 "_law_true_parts" ["_law_state", "_law_vector_here", "_law_others"] (sp_law_true_parts K (cEnv C0 C1 C2 C3 C4 C5 C6 C7)) := ⟨_, _, PySem.W.mg_of X G a5, F5.kp, F5.binds (ps := ["_law_state", "_law_vector_here", "_law_others"]) (fun _ _ _ _ _ _ us hl => match us, hl with | [_, _, _], _ => rfl), ok_law_true_parts D_law_next D_law_distance m_range m_len m_min m_max F5⟩
  have D_law_inner : Dfn l.prog w K mg base 1 "_law_inner" ["_law_a", "_law_b"] (sp_law_inner K (cEnv C0 C1 C2 C3 C4 C5 C6 C7)) := ⟨_, _, PySem.W.mg_of X G a6, F6.kp, F6.binds (ps := ["_law_a", "_law_b"]) (fun _ _ _ _ _ _ us hl => match us, hl with | [_, _], _ => rfl), ok_law_inner m_len m_range F6⟩
  have D_law_differing : Dfn l.prog w K mg base 1 "_law_differing" ["_law_a", "_law_b"] (sp_law_differing K (cEnv C0 C1 C2 C3 C4 C5 C6 C7)) := ⟨_, _, PySem.W.mg_of X G a7, F7.kp, F7.binds (ps := ["_law_a", "_law_b"]) (fun _ _ _ _ _ _ us hl => match us, hl with | [_, _], _ => rfl), ok_law_differing m_len m_range F7⟩
  have D_law_true_fact : Dfn l.prog w K mg base 4 "_law_true_fact" ["_law_state", "_law_vectors"] (sp_law_true_fact K (cEnv C0 C1 C2 C3 C4 C5 C6 C7)) := ⟨_, _, PySem.W.mg_of X G a8, F8.kp, F8.binds (ps := ["_law_state", "_law_vectors"]) (fun _ _ _ _ _ _ us hl => match us, hl with | [_, _], _ => rfl), ok_law_true_fact D_law_next D_law_true_parts D_law_vector D_law_distance D_law_inner D_law_differing m_len m_list m_range m_min m_max F8⟩
  have K_Parts_init : Mkr l.prog w K mg base 1 ((cEnv C0 C1 C2 C3 C4 C5 C6 C7).cls "Parts") ["self", "parts"] (sp_Parts_init K (cEnv C0 C1 C2 C3 C4 C5 C6 C7)) := ⟨_, _, ⟨mk0, a9, i9, kc0⟩, F9.binds (ps := ["self", "parts"]) (fun _ _ _ _ _ _ us hl => match us, hl with | [_, _], _ => rfl), ok_Parts_init m_tuple F9⟩
  have K_Part_init : Mkr l.prog w K mg base 1 ((cEnv C0 C1 C2 C3 C4 C5 C6 C7).cls "Part") ["self", "start", "centre", "radius"] (sp_Part_init K (cEnv C0 C1 C2 C3 C4 C5 C6 C7)) := ⟨_, _, ⟨mk1, a10, i10, kc1⟩, F10.binds (ps := ["self", "start", "centre", "radius"]) (fun _ _ _ _ _ _ us hl => match us, hl with | [_, _, _, _], _ => rfl), ok_Part_init m_tuple F10⟩
  have K_Cell_init : Mkr l.prog w K mg base 1 ((cEnv C0 C1 C2 C3 C4 C5 C6 C7).cls "Cell") ["self", "near", "rival"] (sp_Cell_init K (cEnv C0 C1 C2 C3 C4 C5 C6 C7)) := ⟨_, _, ⟨mk2, a11, i11, kc2⟩, F11.binds (ps := ["self", "near", "rival"]) (fun _ _ _ _ _ _ us hl => match us, hl with | [_, _, _], _ => rfl), ok_Cell_init m_tuple F11⟩
  have K_Box_init : Mkr l.prog w K mg base 1 ((cEnv C0 C1 C2 C3 C4 C5 C6 C7).cls "Box") ["self", "low", "high"] (sp_Box_init K (cEnv C0 C1 C2 C3 C4 C5 C6 C7)) := ⟨_, _, ⟨mk3, a12, i12, kc3⟩, F12.binds (ps := ["self", "low", "high"]) (fun _ _ _ _ _ _ us hl => match us, hl with | [_, _, _], _ => rfl), ok_Box_init m_tuple F12⟩
  have K_Norms_init : Mkr l.prog w K mg base 1 ((cEnv C0 C1 C2 C3 C4 C5 C6 C7).cls "Norms") ["self", "low", "high"] (sp_Norms_init K (cEnv C0 C1 C2 C3 C4 C5 C6 C7)) := ⟨_, _, ⟨mk4, a13, i13, kc4⟩, F13.binds (ps := ["self", "low", "high"]) (fun _ _ _ _ _ _ us hl => match us, hl with | [_, _, _], _ => rfl), ok_Norms_init F13⟩
  have K_Differ_init : Mkr l.prog w K mg base 1 ((cEnv C0 C1 C2 C3 C4 C5 C6 C7).cls "Differ") ["self", "centre", "most"] (sp_Differ_init K (cEnv C0 C1 C2 C3 C4 C5 C6 C7)) := ⟨_, _, ⟨mk5, a14, i14, kc5⟩, F14.binds (ps := ["self", "centre", "most"]) (fun _ _ _ _ _ _ us hl => match us, hl with | [_, _, _], _ => rfl), ok_Differ_init m_tuple F14⟩
  have D_law_made : Dfn l.prog w K mg base 3 "_law_made" ["_law_fact"] (sp_law_made K (cEnv C0 C1 C2 C3 C4 C5 C6 C7)) := ⟨_, _, PySem.W.mg_of X G a15, F15.kp, F15.binds (ps := ["_law_fact"]) (fun _ _ _ _ _ _ us hl => match us, hl with | [_], _ => rfl), ok_law_made C_Parts C_Part C_Cell C_Box C_Norms C_Differ K_Parts_init K_Part_init K_Cell_init K_Box_init K_Norms_init K_Differ_init m_list F15⟩
  have FD16 : FunD K "__init__" "Record.__init__" (defArgs s_Record_init) (defBody s_Record_init) (defScope s_Record_init) [] [("fields", .ref kT16_fields), ("words", .ref kT16_words)] f16 _ := ⟨⟨_, _, _, _, _, _, _, _, _, _, rfl, l16, c16, .inl ⟨rfl, rfl⟩, .inr ⟨kD16, rfl, (List.forall_mem_cons.mpr ⟨⟨_, kd16_fields, rfl⟩, (List.forall_mem_cons.mpr ⟨⟨_, kd16_words, rfl⟩, (fun _ h => nomatch h)⟩)⟩)⟩⟩, k16⟩
  have B_K_Record_init_2 := FunD.kbinds0 (ps := ["self", "name", "vector", "fields", "words"]) FD16 3 [] [("fields", .ref kT16_fields), ("words", .ref kT16_words)] (gSel [(false, 0), (false, 1)]) (by simp) (by simp) (fun r1 r2 r3 => gSel_rel [(false, 0), (false, 1)] r1 r2 r3) (fun D doc pm an cdv ct us mv ws h1 h2 h3 => match us, h1, mv, h2, ws, h3 with | [_, _, _], _, [_, _], _, [], _ => ⟨_, _, _, _, _, _, rfl, rfl, ⟨_, _, _, _, _, _, rfl, rfl, rfl⟩⟩)
  have K_Record_init_2 : MkrK CX0 l.prog w K mg base 1 ((cEnv C0 C1 C2 C3 C4 C5 C6 C7).cls "Record") ["self", "name", "vector", "fields", "words"] (sp_Record_init K (cEnv C0 C1 C2 C3 C4 C5 C6 C7)) 2 [] [.e, .e] [(false, 0), (false, 1)] := B_K_Record_init_2.elim fun mv hb => ⟨_, _, _, _, ⟨mk7, a16, i16, kc7⟩, (.cons ⟨_, rfl, sqT_lit kx16_fields .nil (by decide)⟩ (.cons ⟨_, rfl, sqT_lit kx16_words .nil (by decide)⟩ .nil)), hb, ok_Record_init m_tuple F16⟩
  have P_Part_after : Prp l.prog w K mg base 1 ((cEnv C0 C1 C2 C3 C4 C5 C6 C7).cls "Part") "after" ["self"] (sp_Part_after K (cEnv C0 C1 C2 C3 C4 C5 C6 C7)) := ⟨_, _, _, ⟨a17, pa17, pb17, ⟨_, pc17⟩⟩, F17.binds (ps := ["self"]) (fun _ _ _ _ _ _ us hl => match us, hl with | [_], _ => rfl), ok_Part_after m_len F17⟩
  have M_Parts_fits : Mth l.prog w K mg base 3 ((cEnv C0 C1 C2 C3 C4 C5 C6 C7).cls "Parts") "fits" ["self", "q"] (sp_Parts_fits K (cEnv C0 C1 C2 C3 C4 C5 C6 C7)) := ⟨_, _, ⟨a18, i18, k18⟩, F18.binds (ps := ["self", "q"]) (fun _ _ _ _ _ _ us hl => match us, hl with | [_, _], _ => rfl), ok_Parts_fits C_Part P_Part_after m_len F18⟩
  have M_Part_cut : Mth l.prog w K mg base 3 ((cEnv C0 C1 C2 C3 C4 C5 C6 C7).cls "Part") "cut" ["self", "vector"] (sp_Part_cut K (cEnv C0 C1 C2 C3 C4 C5 C6 C7)) := ⟨_, _, ⟨a19, i19, k19⟩, F19.binds (ps := ["self", "vector"]) (fun _ _ _ _ _ _ us hl => match us, hl with | [_, _], _ => rfl), ok_Part_cut C_Part P_Part_after F19⟩
  have D_distance : Dfn l.prog w K mg base 1 "distance" ["a", "b"] (sp_distance K (cEnv C0 C1 C2 C3 C4 C5 C6 C7)) := ⟨_, _, PySem.W.mg_of X G a20, F20.kp, F20.binds (ps := ["a", "b"]) (fun _ _ _ _ _ _ us hl => match us, hl with | [_, _], _ => rfl), ok_distance m_zip F20⟩
  have M_Parts_holds : Mth l.prog w K mg base 4 ((cEnv C0 C1 C2 C3 C4 C5 C6 C7).cls "Parts") "holds" ["self", "record"] (sp_Parts_holds K (cEnv C0 C1 C2 C3 C4 C5 C6 C7)) := ⟨_, _, ⟨a21, i21, k21⟩, F21.binds (ps := ["self", "record"]) (fun _ _ _ _ _ _ us hl => match us, hl with | [_, _], _ => rfl), ok_Parts_holds C_Parts C_Part M_Parts_fits M_Part_cut D_distance F21⟩
  have M_Cell_fits : Mth l.prog w K mg base 1 ((cEnv C0 C1 C2 C3 C4 C5 C6 C7).cls "Cell") "fits" ["self", "q"] (sp_Cell_fits K (cEnv C0 C1 C2 C3 C4 C5 C6 C7)) := ⟨_, _, ⟨a22, i22, k22⟩, F22.binds (ps := ["self", "q"]) (fun _ _ _ _ _ _ us hl => match us, hl with | [_, _], _ => rfl), ok_Cell_fits m_len F22⟩
  have M_Cell_holds : Mth l.prog w K mg base 2 ((cEnv C0 C1 C2 C3 C4 C5 C6 C7).cls "Cell") "holds" ["self", "record"] (sp_Cell_holds K (cEnv C0 C1 C2 C3 C4 C5 C6 C7)) := ⟨_, _, ⟨a23, i23, k23⟩, F23.binds (ps := ["self", "record"]) (fun _ _ _ _ _ _ us hl => match us, hl with | [_, _], _ => rfl), ok_Cell_holds C_Cell M_Cell_fits D_distance F23⟩
  have M_Box_fits : Mth l.prog w K mg base 1 ((cEnv C0 C1 C2 C3 C4 C5 C6 C7).cls "Box") "fits" ["self", "q"] (sp_Box_fits K (cEnv C0 C1 C2 C3 C4 C5 C6 C7)) := ⟨_, _, ⟨a24, i24, k24⟩, F24.binds (ps := ["self", "q"]) (fun _ _ _ _ _ _ us hl => match us, hl with | [_, _], _ => rfl), ok_Box_fits m_len F24⟩
  have M_Box_holds : Mth l.prog w K mg base 2 ((cEnv C0 C1 C2 C3 C4 C5 C6 C7).cls "Box") "holds" ["self", "record"] (sp_Box_holds K (cEnv C0 C1 C2 C3 C4 C5 C6 C7)) := ⟨_, _, ⟨a25, i25, k25⟩, F25.binds (ps := ["self", "record"]) (fun _ _ _ _ _ _ us hl => match us, hl with | [_, _], _ => rfl), ok_Box_holds C_Box M_Box_fits m_zip F25⟩
  have D_inner : Dfn l.prog w K mg base 1 "inner" ["a", "b"] (sp_inner K (cEnv C0 C1 C2 C3 C4 C5 C6 C7)) := ⟨_, _, PySem.W.mg_of X G a26, F26.kp, F26.binds (ps := ["a", "b"]) (fun _ _ _ _ _ _ us hl => match us, hl with | [_, _], _ => rfl), ok_inner m_zip F26⟩
  have D_norm : Dfn l.prog w K mg base 2 "norm" ["a"] (sp_norm K (cEnv C0 C1 C2 C3 C4 C5 C6 C7)) := ⟨_, _, PySem.W.mg_of X G a27, F27.kp, F27.binds (ps := ["a"]) (fun _ _ _ _ _ _ us hl => match us, hl with | [_], _ => rfl), ok_norm D_inner F27⟩
  have M_Norms_holds : Mth l.prog w K mg base 3 ((cEnv C0 C1 C2 C3 C4 C5 C6 C7).cls "Norms") "holds" ["self", "record"] (sp_Norms_holds K (cEnv C0 C1 C2 C3 C4 C5 C6 C7)) := ⟨_, _, ⟨a28, i28, k28⟩, F28.binds (ps := ["self", "record"]) (fun _ _ _ _ _ _ us hl => match us, hl with | [_, _], _ => rfl), ok_Norms_holds D_norm F28⟩
  have D_differing : Dfn l.prog w K mg base 1 "differing" ["a", "b"] (sp_differing K (cEnv C0 C1 C2 C3 C4 C5 C6 C7)) := ⟨_, _, PySem.W.mg_of X G a29, F29.kp, F29.binds (ps := ["a", "b"]) (fun _ _ _ _ _ _ us hl => match us, hl with | [_, _], _ => rfl), ok_differing m_zip F29⟩
  have M_Differ_holds : Mth l.prog w K mg base 2 ((cEnv C0 C1 C2 C3 C4 C5 C6 C7).cls "Differ") "holds" ["self", "record"] (sp_Differ_holds K (cEnv C0 C1 C2 C3 C4 C5 C6 C7)) := ⟨_, _, ⟨a30, i30, k30⟩, F30.binds (ps := ["self", "record"]) (fun _ _ _ _ _ _ us hl => match us, hl with | [_, _], _ => rfl), ok_Differ_holds D_differing m_len F30⟩
  have M_Parts_apart : Mth l.prog w K mg base 3 ((cEnv C0 C1 C2 C3 C4 C5 C6 C7).cls "Parts") "apart" ["self"] (sp_Parts_apart K (cEnv C0 C1 C2 C3 C4 C5 C6 C7)) := ⟨_, _, ⟨a31, i31, k31⟩, F31.binds (ps := ["self"]) (fun _ _ _ _ _ _ us hl => match us, hl with | [_], _ => rfl), ok_Parts_apart C_Part P_Part_after F31⟩
  have D_root : Dfn l.prog w K mg base 1 "root" ["number"] (sp_root K) := ⟨_, _, PySem.W.mg_of X G a32, F32.kp, F32.binds (ps := ["number"]) (fun _ _ _ _ _ _ us hl => match us, hl with | [_], _ => rfl), ok_root F32⟩
  have D_gap : Dfn l.prog w K mg base 2 "gap" ["far", "near"] (sp_gap K) := ⟨_, _, PySem.W.mg_of X G a33, F33.kp, F33.binds (ps := ["far", "near"]) (fun _ _ _ _ _ _ us hl => match us, hl with | [_, _], _ => rfl), ok_gap D_root F33⟩
  have M_Parts_least_distance : Mth l.prog w K mg base 4 ((cEnv C0 C1 C2 C3 C4 C5 C6 C7).cls "Parts") "least_distance" ["self", "q"] (sp_Parts_least_distance K (cEnv C0 C1 C2 C3 C4 C5 C6 C7)) := ⟨_, _, ⟨a34, i34, k34⟩, F34.binds (ps := ["self", "q"]) (fun _ _ _ _ _ _ us hl => match us, hl with | [_, _], _ => rfl), ok_Parts_least_distance C_Parts C_Part M_Parts_fits M_Parts_apart M_Part_cut D_distance D_gap F34⟩
  have D_split : Dfn l.prog w K mg base 1 "split" ["d", "e", "f"] (sp_split K) := ⟨_, _, PySem.W.mg_of X G a35, F35.kp, F35.binds (ps := ["d", "e", "f"]) (fun _ _ _ _ _ _ us hl => match us, hl with | [_, _, _], _ => rfl), ok_split F35⟩
  have M_Cell_least_distance : Mth l.prog w K mg base 2 ((cEnv C0 C1 C2 C3 C4 C5 C6 C7).cls "Cell") "least_distance" ["self", "q"] (sp_Cell_least_distance K (cEnv C0 C1 C2 C3 C4 C5 C6 C7)) := ⟨_, _, ⟨a36, i36, k36⟩, F36.binds (ps := ["self", "q"]) (fun _ _ _ _ _ _ us hl => match us, hl with | [_, _], _ => rfl), ok_Cell_least_distance C_Cell M_Cell_fits D_distance D_split F36⟩
  have M_Box_least_distance : Mth l.prog w K mg base 2 ((cEnv C0 C1 C2 C3 C4 C5 C6 C7).cls "Box") "least_distance" ["self", "q"] (sp_Box_least_distance K (cEnv C0 C1 C2 C3 C4 C5 C6 C7)) := ⟨_, _, ⟨a37, i37, k37⟩, F37.binds (ps := ["self", "q"]) (fun _ _ _ _ _ _ us hl => match us, hl with | [_, _], _ => rfl), ok_Box_least_distance C_Box M_Box_fits m_zip F37⟩
  have M_Norms_least_distance : Mth l.prog w K mg base 3 ((cEnv C0 C1 C2 C3 C4 C5 C6 C7).cls "Norms") "least_distance" ["self", "q"] (sp_Norms_least_distance K (cEnv C0 C1 C2 C3 C4 C5 C6 C7)) := ⟨_, _, ⟨a38, i38, k38⟩, F38.binds (ps := ["self", "q"]) (fun _ _ _ _ _ _ us hl => match us, hl with | [_, _], _ => rfl), ok_Norms_least_distance D_norm D_gap F38⟩
  have M_Fact_least_distance_at_Differ : Mth l.prog w K mg base 1 ((cEnv C0 C1 C2 C3 C4 C5 C6 C7).cls "Differ") "least_distance" ["self", "q"] (sp_Fact_least_distance K (cEnv C0 C1 C2 C3 C4 C5 C6 C7)) := ⟨_, _, ⟨ai39_Differ, i39, k39⟩, F39.binds (ps := ["self", "q"]) (fun _ _ _ _ _ _ us hl => match us, hl with | [_, _], _ => rfl), ok_Fact_least_distance F39⟩
  have M_Fact_least_differing_at_Box : Mth l.prog w K mg base 5 ((cEnv C0 C1 C2 C3 C4 C5 C6 C7).cls "Box") "least_differing" ["self", "q"] (sp_Fact_least_differing K (cEnv C0 C1 C2 C3 C4 C5 C6 C7)) := ⟨_, _, ⟨ai40_Box, i40, k40⟩, F40.binds (ps := ["self", "q"]) (fun _ _ _ _ _ _ us hl => match us, hl with | [_, _], _ => rfl), ok_Fact_least_differing C_Parts C_Cell C_Box C_Norms C_Differ M_Parts_least_distance M_Cell_least_distance M_Box_least_distance M_Norms_least_distance M_Fact_least_distance_at_Differ F40⟩
  have M_Fact_least_differing_at_Cell : Mth l.prog w K mg base 5 ((cEnv C0 C1 C2 C3 C4 C5 C6 C7).cls "Cell") "least_differing" ["self", "q"] (sp_Fact_least_differing K (cEnv C0 C1 C2 C3 C4 C5 C6 C7)) := ⟨_, _, ⟨ai40_Cell, i40, k40⟩, F40.binds (ps := ["self", "q"]) (fun _ _ _ _ _ _ us hl => match us, hl with | [_, _], _ => rfl), ok_Fact_least_differing C_Parts C_Cell C_Box C_Norms C_Differ M_Parts_least_distance M_Cell_least_distance M_Box_least_distance M_Norms_least_distance M_Fact_least_distance_at_Differ F40⟩
  have M_Fact_least_differing_at_Norms : Mth l.prog w K mg base 5 ((cEnv C0 C1 C2 C3 C4 C5 C6 C7).cls "Norms") "least_differing" ["self", "q"] (sp_Fact_least_differing K (cEnv C0 C1 C2 C3 C4 C5 C6 C7)) := ⟨_, _, ⟨ai40_Norms, i40, k40⟩, F40.binds (ps := ["self", "q"]) (fun _ _ _ _ _ _ us hl => match us, hl with | [_, _], _ => rfl), ok_Fact_least_differing C_Parts C_Cell C_Box C_Norms C_Differ M_Parts_least_distance M_Cell_least_distance M_Box_least_distance M_Norms_least_distance M_Fact_least_distance_at_Differ F40⟩
  have M_Fact_least_differing_at_Parts : Mth l.prog w K mg base 5 ((cEnv C0 C1 C2 C3 C4 C5 C6 C7).cls "Parts") "least_differing" ["self", "q"] (sp_Fact_least_differing K (cEnv C0 C1 C2 C3 C4 C5 C6 C7)) := ⟨_, _, ⟨ai40_Parts, i40, k40⟩, F40.binds (ps := ["self", "q"]) (fun _ _ _ _ _ _ us hl => match us, hl with | [_, _], _ => rfl), ok_Fact_least_differing C_Parts C_Cell C_Box C_Norms C_Differ M_Parts_least_distance M_Cell_least_distance M_Box_least_distance M_Norms_least_distance M_Fact_least_distance_at_Differ F40⟩
  have M_Differ_least_differing : Mth l.prog w K mg base 2 ((cEnv C0 C1 C2 C3 C4 C5 C6 C7).cls "Differ") "least_differing" ["self", "q"] (sp_Differ_least_differing K (cEnv C0 C1 C2 C3 C4 C5 C6 C7)) := ⟨_, _, ⟨a41, i41, k41⟩, F41.binds (ps := ["self", "q"]) (fun _ _ _ _ _ _ us hl => match us, hl with | [_, _], _ => rfl), ok_Differ_least_differing D_differing m_len m_max F41⟩
  have M_Parts_covers : Mth l.prog w K mg base 3 ((cEnv C0 C1 C2 C3 C4 C5 C6 C7).cls "Parts") "covers" ["self", "size"] (sp_Parts_covers K (cEnv C0 C1 C2 C3 C4 C5 C6 C7)) := ⟨_, _, ⟨a42, i42, k42⟩, F42.binds (ps := ["self", "size"]) (fun _ _ _ _ _ _ us hl => match us, hl with | [_, _], _ => rfl), ok_Parts_covers C_Part P_Part_after F42⟩
  have M_Parts_most_product : Mth l.prog w K mg base 4 ((cEnv C0 C1 C2 C3 C4 C5 C6 C7).cls "Parts") "most_product" ["self", "q"] (sp_Parts_most_product K (cEnv C0 C1 C2 C3 C4 C5 C6 C7)) := ⟨_, _, ⟨a43, i43, k43⟩, F43.binds (ps := ["self", "q"]) (fun _ _ _ _ _ _ us hl => match us, hl with | [_, _], _ => rfl), ok_Parts_most_product C_Parts C_Part M_Parts_fits M_Parts_covers M_Part_cut D_inner D_norm D_root m_len F43⟩
  have M_Fact_most_product_at_Cell : Mth l.prog w K mg base 1 ((cEnv C0 C1 C2 C3 C4 C5 C6 C7).cls "Cell") "most_product" ["self", "q"] (sp_Fact_most_product K (cEnv C0 C1 C2 C3 C4 C5 C6 C7)) := ⟨_, _, ⟨ai44_Cell, i44, k44⟩, F44.binds (ps := ["self", "q"]) (fun _ _ _ _ _ _ us hl => match us, hl with | [_, _], _ => rfl), ok_Fact_most_product F44⟩
  have M_Fact_most_product_at_Differ : Mth l.prog w K mg base 1 ((cEnv C0 C1 C2 C3 C4 C5 C6 C7).cls "Differ") "most_product" ["self", "q"] (sp_Fact_most_product K (cEnv C0 C1 C2 C3 C4 C5 C6 C7)) := ⟨_, _, ⟨ai44_Differ, i44, k44⟩, F44.binds (ps := ["self", "q"]) (fun _ _ _ _ _ _ us hl => match us, hl with | [_, _], _ => rfl), ok_Fact_most_product F44⟩
  have M_Box_most_product : Mth l.prog w K mg base 2 ((cEnv C0 C1 C2 C3 C4 C5 C6 C7).cls "Box") "most_product" ["self", "q"] (sp_Box_most_product K (cEnv C0 C1 C2 C3 C4 C5 C6 C7)) := ⟨_, _, ⟨a45, i45, k45⟩, F45.binds (ps := ["self", "q"]) (fun _ _ _ _ _ _ us hl => match us, hl with | [_, _], _ => rfl), ok_Box_most_product C_Box M_Box_fits m_zip m_max F45⟩
  have M_Norms_most_product : Mth l.prog w K mg base 3 ((cEnv C0 C1 C2 C3 C4 C5 C6 C7).cls "Norms") "most_product" ["self", "q"] (sp_Norms_most_product K (cEnv C0 C1 C2 C3 C4 C5 C6 C7)) := ⟨_, _, ⟨a46, i46, k46⟩, F46.binds (ps := ["self", "q"]) (fun _ _ _ _ _ _ us hl => match us, hl with | [_, _], _ => rfl), ok_Norms_most_product D_norm D_root F46⟩
  exact ok_law C_Record C_Parts C_Cell C_Box C_Norms C_Differ D_law_next D_law_vector D_law_bits D_law_true_fact D_law_made K_Record_init_2 M_Parts_holds M_Cell_holds M_Box_holds M_Norms_holds M_Differ_holds M_Parts_least_distance M_Cell_least_distance M_Box_least_distance M_Norms_least_distance M_Fact_least_distance_at_Differ D_law_distance M_Fact_least_differing_at_Parts M_Fact_least_differing_at_Cell M_Fact_least_differing_at_Box M_Fact_least_differing_at_Norms M_Differ_least_differing D_law_differing M_Parts_most_product M_Fact_most_product_at_Cell M_Fact_most_product_at_Differ M_Box_most_product M_Norms_most_product D_law_inner m_list m_range F47
theorem walk {l : PySem.W.OpenLaw} {q : Program} {loose : List Str} {XP : (Str → Option Value) → Heap → Prop} {YP : World → Heap → Prop} {d : DefRec} {K : Params → PySem.W.Frag} (hn : l.most = some 63) (hdf : d.params.defaults = [])
    (hY : ∀ (w : World) (h : Heap), YP w h → (K w.params).In h)
    (F : ∀ (w : World) (mg : Str → Option Value) (fa : Addr) (h : Heap), (K w.params).In h → h.Ns mainGlobals mg → mg d.name = some (.ref fa) →
      ∃ fd : FuncData, (∀ (s : Shared) (u : Value), BindsTo s fd ⟨[u], []⟩ [("_law_script", u)]) ∧ ∀ base : Heap, (K w.params).In base → base.Ns mainGlobals mg → FnOk l.prog w (K w.params) mg base CX0 6 fa fd ["_law_script"] (sp_law (K w.params))) :
    PySem.W.WalkO q loose XP YP l.row.toRowW d [] (fun f vs => PySem.call f vs) :=
  L2.walk_of (n := 63) (k := 6) (x := "_law_script") (CX := fun _ => CX0) (sp := fun w => sp_law (K w.params)) hn (by decide) hdf ⟨rfl, by decide, by decide⟩ hY F (fun _ _ a ns hl _ hS => ⟨a, ns, rfl, hS, hl, fun _ => rfl⟩) fun _ _ _ _ _ z => z
end Z
open PySem PySem.W PyProof.Rows
set_option maxRecDepth 100000 in
set_option maxHeartbeats 0 in
theorem PySem.Challenge.cw_surenear_k21_bounds_of_vectors_are_safe_holds : PySem.Challenge.rw_surenear_k21_bounds_of_vectors_are_safe.Holds := by
  w_on; o_law; k_head; (case hw => w_witness2)
  k_fill
  refine Z.walk (l := PySem.Challenge.rw_surenear_k21_bounds_of_vectors_are_safe) rfl rfl (fun w h Y => PySem.W.kIn_of Y) ?F
  case F =>
    intro w mg fa h KX G hmg
    refine' Z.all_mk KX G hmg ?b0 ?b1 ?b2 ?b3 ?b4 ?b5 ?b6 ?b7 ?pg0 ?hd0 ?po0 ?sa0 ?ha0 ?hm0 ?mk0 ?kc0 ?n0_0 ?pg1 ?hd1 ?po1 ?sa1 ?ha1 ?hm1 ?mk1 ?kc1 ?n1_0 ?n1_1 ?n1_2 ?pg2 ?hd2 ?po2 ?sa2 ?ha2 ?hm2 ?mk2 ?kc2 ?n2_0 ?n2_1 ?pg3 ?hd3 ?po3 ?sa3 ?ha3 ?hm3 ?mk3 ?kc3 ?n3_0 ?n3_1 ?pg4 ?hd4 ?po4 ?sa4 ?ha4 ?hm4 ?mk4 ?kc4 ?n4_0 ?n4_1 ?pg5 ?hd5 ?po5 ?sa5 ?ha5 ?hm5 ?mk5 ?kc5 ?n5_0 ?n5_1 ?pg6 ?hd6 ?po6 ?sa6 ?ha6 ?hm6 ?pg7 ?hd7 ?po7 ?sa7 ?ha7 ?hm7 ?mk7 ?kc7 ?n7_0 ?n7_1 ?n7_2 ?n7_3 ?hn ?htk ?nd ?a0 ?l0 ?c0 ?k0 ?a1 ?l1 ?c1 ?k1 ?a2 ?l2 ?c2 ?k2 ?a3 ?l3 ?c3 ?k3 ?a4 ?l4 ?c4 ?k4 ?a5 ?l5 ?c5 ?k5 ?a6 ?l6 ?c6 ?k6 ?a7 ?l7 ?c7 ?k7 ?a8 ?l8 ?c8 ?k8 ?a9 ?i9 ?l9 ?c9 ?k9 ?a10 ?i10 ?l10 ?c10 ?k10 ?a11 ?i11 ?l11 ?c11 ?k11 ?a12 ?i12 ?l12 ?c12 ?k12 ?a13 ?i13 ?l13 ?c13 ?k13 ?a14 ?i14 ?l14 ?c14 ?k14 ?a15 ?l15 ?c15 ?k15 ?a16 ?i16 ?l16 ?c16 ?k16 ?a17 ?pa17 ?pb17 ?pc17 ?l17 ?c17 ?k17 ?a18 ?i18 ?l18 ?c18 ?k18 ?a19 ?i19 ?l19 ?c19 ?k19 ?a20 ?l20 ?c20 ?k20 ?a21 ?i21 ?l21 ?c21 ?k21 ?a22 ?i22 ?l22 ?c22 ?k22 ?a23 ?i23 ?l23 ?c23 ?k23 ?a24 ?i24 ?l24 ?c24 ?k24 ?a25 ?i25 ?l25 ?c25 ?k25 ?a26 ?l26 ?c26 ?k26 ?a27 ?l27 ?c27 ?k27 ?a28 ?i28 ?l28 ?c28 ?k28 ?a29 ?l29 ?c29 ?k29 ?a30 ?i30 ?l30 ?c30 ?k30 ?a31 ?i31 ?l31 ?c31 ?k31 ?a32 ?l32 ?c32 ?k32 ?a33 ?l33 ?c33 ?k33 ?a34 ?i34 ?l34 ?c34 ?k34 ?a35 ?l35 ?c35 ?k35 ?a36 ?i36 ?l36 ?c36 ?k36 ?a37 ?i37 ?l37 ?c37 ?k37 ?a38 ?i38 ?l38 ?c38 ?k38 ?a39 ?i39 ?ai39_Differ ?l39 ?c39 ?k39 ?a40 ?i40 ?ai40_Box ?ai40_Cell ?ai40_Norms ?ai40_Parts ?l40 ?c40 ?k40 ?a41 ?i41 ?l41 ?c41 ?k41 ?a42 ?i42 ?l42 ?c42 ?k42 ?a43 ?i43 ?l43 ?c43 ?k43 ?a44 ?i44 ?ai44_Cell ?ai44_Differ ?l44 ?c44 ?k44 ?a45 ?i45 ?l45 ?c45 ?k45 ?a46 ?i46 ?l46 ?c46 ?k46 ?a47 ?l47 ?c47 ?k47 ?kd16_fields ?kx16_fields ?kd16_words ?kx16_words ?z0 ?z1 ?z2 ?z3 ?z4 ?z5 ?z6 ?z7
    (case b0 => k_is)
    (case b1 => k_is)
    (case b2 => k_is)
    (case b3 => k_is)
    (case b4 => k_is)
    (case b5 => k_is)
    (case b6 => k_is)
    (case b7 => k_is)
    (case pg0 => k_is)
    (case hd0 => k_is)
    (case po0 => k_is)
    (case sa0 => k_is)
    (case ha0 => k_is)
    (case hm0 => k_is)
    (case mk0 => k_is)
    (case kc0 => k_is)
    (case n0_0 => k_is)
    (case pg1 => k_is)
    (case hd1 => k_is)
    (case po1 => k_is)
    (case sa1 => k_is)
    (case ha1 => k_is)
    (case hm1 => k_is)
    (case mk1 => k_is)
    (case kc1 => k_is)
    (case n1_0 => k_is)
    (case n1_1 => k_is)
    (case n1_2 => k_is)
    (case pg2 => k_is)
    (case hd2 => k_is)
    (case po2 => k_is)
    (case sa2 => k_is)
    (case ha2 => k_is)
    (case hm2 => k_is)
    (case mk2 => k_is)
    (case kc2 => k_is)
    (case n2_0 => k_is)
    (case n2_1 => k_is)
    (case pg3 => k_is)
    (case hd3 => k_is)
    (case po3 => k_is)
    (case sa3 => k_is)
    (case ha3 => k_is)
    (case hm3 => k_is)
    (case mk3 => k_is)
    (case kc3 => k_is)
    (case n3_0 => k_is)
    (case n3_1 => k_is)
    (case pg4 => k_is)
    (case hd4 => k_is)
    (case po4 => k_is)
    (case sa4 => k_is)
    (case ha4 => k_is)
    (case hm4 => k_is)
    (case mk4 => k_is)
    (case kc4 => k_is)
    (case n4_0 => k_is)
    (case n4_1 => k_is)
    (case pg5 => k_is)
    (case hd5 => k_is)
    (case po5 => k_is)
    (case sa5 => k_is)
    (case ha5 => k_is)
    (case hm5 => k_is)
    (case mk5 => k_is)
    (case kc5 => k_is)
    (case n5_0 => k_is)
    (case n5_1 => k_is)
    (case pg6 => k_is)
    (case hd6 => k_is)
    (case po6 => k_is)
    (case sa6 => k_is)
    (case ha6 => k_is)
    (case hm6 => k_is)
    (case pg7 => k_is)
    (case hd7 => k_is)
    (case po7 => k_is)
    (case sa7 => k_is)
    (case ha7 => k_is)
    (case hm7 => k_is)
    (case mk7 => k_is)
    (case kc7 => k_is)
    (case n7_0 => k_is)
    (case n7_1 => k_is)
    (case n7_2 => k_is)
    (case n7_3 => k_is)
    (case hn => k_is)
    (case htk => k_is)
    (case nd => decide)
    (case a0 => k_is)
    (case l0 => k_is)
    (case c0 => k_is)
    (case k0 => k_is)
    (case a1 => k_is)
    (case l1 => k_is)
    (case c1 => k_is)
    (case k1 => k_is)
    (case a2 => k_is)
    (case l2 => k_is)
    (case c2 => k_is)
    (case k2 => k_is)
    (case a3 => k_is)
    (case l3 => k_is)
    (case c3 => k_is)
    (case k3 => k_is)
    (case a4 => k_is)
    (case l4 => k_is)
    (case c4 => k_is)
    (case k4 => k_is)
    (case a5 => k_is)
    (case l5 => k_is)
    (case c5 => k_is)
    (case k5 => k_is)
    (case a6 => k_is)
    (case l6 => k_is)
    (case c6 => k_is)
    (case k6 => k_is)
    (case a7 => k_is)
    (case l7 => k_is)
    (case c7 => k_is)
    (case k7 => k_is)
    (case a8 => k_is)
    (case l8 => k_is)
    (case c8 => k_is)
    (case k8 => k_is)
    (case a9 => k_is)
    (case i9 => k_is)
    (case l9 => k_is)
    (case c9 => k_is)
    (case k9 => k_is)
    (case a10 => k_is)
    (case i10 => k_is)
    (case l10 => k_is)
    (case c10 => k_is)
    (case k10 => k_is)
    (case a11 => k_is)
    (case i11 => k_is)
    (case l11 => k_is)
    (case c11 => k_is)
    (case k11 => k_is)
    (case a12 => k_is)
    (case i12 => k_is)
    (case l12 => k_is)
    (case c12 => k_is)
    (case k12 => k_is)
    (case a13 => k_is)
    (case i13 => k_is)
    (case l13 => k_is)
    (case c13 => k_is)
    (case k13 => k_is)
    (case a14 => k_is)
    (case i14 => k_is)
    (case l14 => k_is)
    (case c14 => k_is)
    (case k14 => k_is)
    (case a15 => k_is)
    (case l15 => k_is)
    (case c15 => k_is)
    (case k15 => k_is)
    (case a16 => k_is)
    (case i16 => k_is)
    (case l16 => k_is)
    (case c16 => k_is)
    (case k16 => k_is)
    (case a17 => k_is)
    (case pa17 => k_is)
    (case pb17 => k_is)
    (case pc17 => k_is)
    (case l17 => k_is)
    (case c17 => k_is)
    (case k17 => k_is)
    (case a18 => k_is)
    (case i18 => k_is)
    (case l18 => k_is)
    (case c18 => k_is)
    (case k18 => k_is)
    (case a19 => k_is)
    (case i19 => k_is)
    (case l19 => k_is)
    (case c19 => k_is)
    (case k19 => k_is)
    (case a20 => k_is)
    (case l20 => k_is)
    (case c20 => k_is)
    (case k20 => k_is)
    (case a21 => k_is)
    (case i21 => k_is)
    (case l21 => k_is)
    (case c21 => k_is)
    (case k21 => k_is)
    (case a22 => k_is)
    (case i22 => k_is)
    (case l22 => k_is)
    (case c22 => k_is)
    (case k22 => k_is)
    (case a23 => k_is)
    (case i23 => k_is)
    (case l23 => k_is)
    (case c23 => k_is)
    (case k23 => k_is)
    (case a24 => k_is)
    (case i24 => k_is)
    (case l24 => k_is)
    (case c24 => k_is)
    (case k24 => k_is)
    (case a25 => k_is)
    (case i25 => k_is)
    (case l25 => k_is)
    (case c25 => k_is)
    (case k25 => k_is)
    (case a26 => k_is)
    (case l26 => k_is)
    (case c26 => k_is)
    (case k26 => k_is)
    (case a27 => k_is)
    (case l27 => k_is)
    (case c27 => k_is)
    (case k27 => k_is)
    (case a28 => k_is)
    (case i28 => k_is)
    (case l28 => k_is)
    (case c28 => k_is)
    (case k28 => k_is)
    (case a29 => k_is)
    (case l29 => k_is)
    (case c29 => k_is)
    (case k29 => k_is)
    (case a30 => k_is)
    (case i30 => k_is)
    (case l30 => k_is)
    (case c30 => k_is)
    (case k30 => k_is)
    (case a31 => k_is)
    (case i31 => k_is)
    (case l31 => k_is)
    (case c31 => k_is)
    (case k31 => k_is)
    (case a32 => k_is)
    (case l32 => k_is)
    (case c32 => k_is)
    (case k32 => k_is)
    (case a33 => k_is)
    (case l33 => k_is)
    (case c33 => k_is)
    (case k33 => k_is)
    (case a34 => k_is)
    (case i34 => k_is)
    (case l34 => k_is)
    (case c34 => k_is)
    (case k34 => k_is)
    (case a35 => k_is)
    (case l35 => k_is)
    (case c35 => k_is)
    (case k35 => k_is)
    (case a36 => k_is)
    (case i36 => k_is)
    (case l36 => k_is)
    (case c36 => k_is)
    (case k36 => k_is)
    (case a37 => k_is)
    (case i37 => k_is)
    (case l37 => k_is)
    (case c37 => k_is)
    (case k37 => k_is)
    (case a38 => k_is)
    (case i38 => k_is)
    (case l38 => k_is)
    (case c38 => k_is)
    (case k38 => k_is)
    (case a39 => k_is)
    (case i39 => k_is)
    (case ai39_Differ => k_is)
    (case l39 => k_is)
    (case c39 => k_is)
    (case k39 => k_is)
    (case a40 => k_is)
    (case i40 => k_is)
    (case ai40_Box => k_is)
    (case ai40_Cell => k_is)
    (case ai40_Norms => k_is)
    (case ai40_Parts => k_is)
    (case l40 => k_is)
    (case c40 => k_is)
    (case k40 => k_is)
    (case a41 => k_is)
    (case i41 => k_is)
    (case l41 => k_is)
    (case c41 => k_is)
    (case k41 => k_is)
    (case a42 => k_is)
    (case i42 => k_is)
    (case l42 => k_is)
    (case c42 => k_is)
    (case k42 => k_is)
    (case a43 => k_is)
    (case i43 => k_is)
    (case l43 => k_is)
    (case c43 => k_is)
    (case k43 => k_is)
    (case a44 => k_is)
    (case i44 => k_is)
    (case ai44_Cell => k_is)
    (case ai44_Differ => k_is)
    (case l44 => k_is)
    (case c44 => k_is)
    (case k44 => k_is)
    (case a45 => k_is)
    (case i45 => k_is)
    (case l45 => k_is)
    (case c45 => k_is)
    (case k45 => k_is)
    (case a46 => k_is)
    (case i46 => k_is)
    (case l46 => k_is)
    (case c46 => k_is)
    (case k46 => k_is)
    (case a47 => k_is)
    (case l47 => k_is)
    (case c47 => k_is)
    (case k47 => k_is)
    (case kd16_fields => k_is)
    (case kx16_fields => k_is)
    (case kd16_words => k_is)
    (case kx16_words => k_is)
    (case z0 => k_is)
    (case z1 => k_is)
    (case z2 => k_is)
    (case z3 => k_is)
    (case z4 => k_is)
    (case z5 => k_is)
    (case z6 => k_is)
    (case z7 => k_is)

