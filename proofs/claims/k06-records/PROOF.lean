import PyProof.Rows.All
import Wide.All
import OpenK.AllK
import Wide.FinOn
import HandS.ForExc
import HandS.ForMost
import HandS.Wide
import HandS.IsInst
import HandS.TupAny
import HandS.Flow
import HandS.Codes
import HandS.Zip
import HandS.TupLe
import KE.GoesMore
import HandS.Property
import HandS.OwnEq
import HandS.Defaults
import HandS.MakeKwOnly
import HandS.More
import HandS.TryMany
import HandS.RaiseMore
import PySem.Challenge.RW_surenear_k06_records_of_a_schema
set_option Elab.async false
set_option linter.all false
set_option maxRecDepth 100000
set_option maxHeartbeats 4000000
set_option exponentiation.threshold 100000
namespace Z
open PySem PySem.Spec L2
open C8 (tCut pss_cut)
/-! Z: one rule a construct, whatever the kinds of its values; and the steps of a reading. -/

/-! ### operators by the kinds of their values -/
def MulOk (i j : Int) : Prop := CMul i j ∨ CMulW i j
def uAdd (K : PySem.W.Frag) : R2 := fun x y H Q => match x, y with
  | .int i, .int j => Q (.int (i + j)) H
  | .str a, .str b => a.length + b.length ≤ sizeLine ∧ Q (.str (a ++ b)) H
  | .ref l, .ref b => rCat (.ref l) (.ref b) H Q ∨ rCatA K (.ref l) (.ref b) H Q
  | _, _ => False
def uSub : R2 := fun x y H Q => match x, y with
  | .int i, .int j => Q (.int (i - j)) H
  | _, _ => False
def uMul : R2 := fun x y H Q => match x, y with
  | .int i, .int j => MulOk i j ∧ Q (.int (i * j)) H
  | _, _ => False
def uDiv : R2 := fun x y H Q => match x, y with
  | .int i, .int j => CDivW i j ∧ Q (.int (i / j)) H
  | _, _ => False
def uMod : R2 := fun x y H Q => match x, y with
  | .int i, .int j => 0 < j ∧ Q (.int (i % j)) H
  | _, _ => False
def uPow : R2 := fun x y H Q => match x, y with
  | .int i, .int j => CPow i j ∧ Q (.int (i ^ j.toNat)) H
  | _, _ => False
def uNeg : V → Hp → VK → Prop := fun x H Q => match x with
  | .int i => Q (.int (-i)) H
  | _ => False
/-! tuples of numbers and texts, one before the other -/
def ltV1 : V → V → Bool
  | .int i, .int j => decide (i < j)
  | .str a, .str b => decide (a.cps.toList < b.cps.toList)
  | _, _ => false
def same1 : V → V → Bool
  | .int _, .int _ => true
  | .str _, .str _ => true
  | _, _ => false
def ltV2 (xs ys : List V) (j : Nat) : Bool := match xs[j]?, ys[j]? with | some u, some v => ltV1 u v | _, _ => false
def rLtP (K : PySem.W.Frag) (a b : Addr) (H : Hp) (Q : VK) : Prop := ∃ xs ys : List V, SqT K H a xs ∧ SqT K H b ys ∧ (∀ (j : Nat) (u v : V), xs[j]? = some u → ys[j]? = some v → same1 u v = true) ∧
  Q (.bl (Ob.lexAt (fun j => decide (xs[j]? = ys[j]?)) (ltV2 xs ys) (decide (xs.length < ys.length)) 0 (min xs.length ys.length))) H
def uLt (K : PySem.W.Frag) : R2 := fun x y H Q => match x, y with
  | .int i, .int j => Q (.bl (decide (i < j))) H
  | .str i, .str j => Q (.bl (decide (i.cps.toList < j.cps.toList))) H
  | .ref a, .ref b => rLtT K (.ref a) (.ref b) H Q ∨ rLtP K a b H Q
  | _, _ => False
def uLe : R2 := fun x y H Q => match x, y with
  | .int i, .int j => Q (.bl (decide (i ≤ j))) H
  | .str i, .str j => Q (.bl (!decide (j.cps.toList < i.cps.toList))) H
  | _, _ => False
def uGt : R2 := fun x y H Q => match x, y with
  | .int i, .int j => Q (.bl (decide (j < i))) H
  | .str i, .str j => Q (.bl (decide (j.cps.toList < i.cps.toList))) H
  | _, _ => False
def uGe : R2 := fun x y H Q => match x, y with
  | .int i, .int j => Q (.bl (decide (j ≤ i))) H
  | .str i, .str j => Q (.bl (!decide (i.cps.toList < j.cps.toList))) H
  | _, _ => False
/-! ### == of lists and tuples, place by place; the same object is equal to itself -/
def sameSq (K : PySem.W.Frag) (H : Hp) (a c : Addr) (xs ys : List V) : Prop := (SqT K H a xs ∧ SqT K H c ys) ∨ (SqL K H a xs ∧ SqL K H c ys)
def allB (xs ys : List V) (e : Nat → Bool) : Bool := (List.range (min xs.length ys.length)).all e && (xs.length == ys.length)
def EqB (K : PySem.W.Frag) (H : Hp) : Nat → V → V → Bool → Prop
  | 0 => fun x y b => (flatV x = true ∧ flatV y = true ∧ b = eqV x y) ∨ (∃ a, x = .ref a ∧ y = .ref a ∧ b = true)
  | n + 1 => fun x y b => EqB K H n x y b ∨ ∃ a c xs ys e, x = .ref a ∧ y = .ref c ∧ sameSq K H a c xs ys ∧ (∀ (i : Nat) (x y : V), xs[i]? = some x → ys[i]? = some y → EqB K H n x y (e i)) ∧ b = allB xs ys e
def rSqB (K : PySem.W.Frag) (a c : Addr) (H : Hp) (Q : Bool → Prop) : Prop := ∃ n xs ys e, n ≤ 16 ∧ sameSq K H a c xs ys ∧ (∀ (i : Nat) (x y : V), xs[i]? = some x → ys[i]? = some y → EqB K H n x y (e i)) ∧ Q (allB xs ys e)
theorem sq_both {X : Cx} {pins : List (Addr × Obj)} {σ : L2.St} {H : Hp} {s : Shared} {A : Around} {a c : Addr} {xs ys : List V} {e : Nat → Bool} (I : Inv X pins σ H s) (hu : A.units < cLine) (h : sameSq X.K H a c xs ys)
    (he : ∀ (i : Nat) (x y : V), xs[i]? = some x → ys[i]? = some y → ∀ u v, RelV x u → RelV y v → SeqAt.EqAt A.in1 s u v (e i)) : SeqAt.RcAt A s (.ref a) (.ref c) (allB xs ys e) ∧ SeqAt.RcNeAt A s (.ref a) (.ref c) (!allB xs ys e) := by
  have items : ∀ {us vs : List Value}, Vals xs us → Vals ys vs → ∀ (j : Nat) (h1 : j < us.toArray.size) (h2 : j < vs.toArray.size), SeqAt.EqAt A.in1 s us.toArray[j] vs.toArray[j] (e j) := by
    intro us vs r1 r2 j h1 h2
    have l1 := r1.length
    have l2 := r2.length
    have k1 : j < us.length := by simpa using h1
    have k2 : j < vs.length := by simpa using h2
    obtain ⟨u, eu, ru⟩ := Vals.get r1 (List.getElem?_eq_getElem (show j < xs.length by omega))
    obtain ⟨v, ev, rv⟩ := Vals.get r2 (List.getElem?_eq_getElem (show j < ys.length by omega))
    have z1 : us.toArray[j] = u := by rw [List.getElem?_eq_getElem k1] at eu; simpa using Option.some.inj eu
    have z2 : vs.toArray[j] = v := by rw [List.getElem?_eq_getElem k2] at ev; simpa using Option.some.inj ev
    rw [z1, z2]
    exact he j _ _ (List.getElem?_eq_getElem (show j < xs.length by omega)) (List.getElem?_eq_getElem (show j < ys.length by omega)) u v ru rv
  rcases h with ⟨ha, hc⟩ | ⟨ha, hc⟩
  · obtain ⟨us, r1, p1, _⟩ := I.tuple ha
    obtain ⟨vs, r2, p2, _⟩ := I.tuple hc
    have z : ((List.range (min us.toArray.size vs.toArray.size)).all e && us.toArray.size == vs.toArray.size) = allB xs ys e := by
      unfold allB
      rw [show us.toArray.size = xs.length by simpa using r1.length.symm, show vs.toArray.size = ys.length by simpa using r2.length.symm]
    refine ⟨?_, ?_⟩
    · rw [← z]; exact SeqAt.RcAt.tuples p1 p2 hu (items r1 r2)
    · rw [← z]; exact SeqAt.RcNeAt.tuples p1 p2 hu (items r1 r2)
  · obtain ⟨us, r1, p1, _⟩ := I.list ha
    obtain ⟨vs, r2, p2, _⟩ := I.list hc
    have n1 : us.toArray.size = xs.length := by simpa using r1.length.symm
    have n2 : vs.toArray.size = ys.length := by simpa using r2.length.symm
    by_cases hl : xs.length = ys.length
    · have z : (List.range us.toArray.size).all e = allB xs ys e := by
        unfold allB
        rw [n1, hl, Nat.min_self, beq_self_eq_true, Bool.and_true]
      refine ⟨?_, ?_⟩
      · rw [← z]; exact SeqAt.RcAt.lists p1.isList p2.isList (by omega) hu (items r1 r2)
      · rw [← z]; exact SeqAt.RcNeAt.lists p1.isList p2.isList (by omega) hu (items r1 r2)
    · have z : allB xs ys e = false := by unfold allB; simp [hl]
      have ne : (us.toArray.size != vs.toArray.size) = true := by rw [n1, n2]; simpa using hl
      rw [z]
      exact ⟨SeqAt.RcAt.lists_lengths p1.isList p2.isList ne hu, SeqAt.RcNeAt.lists_lengths p1.isList p2.isList ne hu⟩
theorem EqB.det {X : Cx} {pins : List (Addr × Obj)} {σ : L2.St} {H : Hp} {s : Shared} (I : Inv X pins σ H s) : ∀ (n : Nat) (x : V) (b : Bool), EqB X.K H n x x b → b = true
  | 0, x, b, h => by
    rcases h with ⟨fx, _, rfl⟩ | ⟨a, _, _, rfl⟩
    · cases x <;> first | (cases fx; done) | (simp [eqV]; done)
    · rfl
  | n + 1, x, b, h => by
    rcases h with h | ⟨a, c, xs, ys, e, rfl, e2, hs, he, rfl⟩
    · exact EqB.det I n x b h
    · cases e2
      have z : xs = ys := by
        rcases hs with ⟨h1, h2⟩ | ⟨h1, h2⟩
        · exact I.tuple_inj h1 h2
        · exact I.list_inj h1 h2
      subst z
      unfold allB
      rw [Nat.min_self, beq_self_eq_true, Bool.and_true, List.all_eq_true]
      intro i hi
      have hi := List.mem_range.mp hi
      exact EqB.det I n _ _ (he i _ _ (List.getElem?_eq_getElem hi) (List.getElem?_eq_getElem hi))
theorem EqB.at {X : Cx} {pins : List (Addr × Obj)} {σ : L2.St} {H : Hp} {s : Shared} (I : Inv X pins σ H s) : ∀ (n : Nat) (x y : V) (b : Bool) (u v : Value) (A : Around), A.units + n < cLine → EqB X.K H n x y b → RelV x u → RelV y v → SeqAt.EqAt A s u v b
  | 0, x, y, b, u, v, A, _, h, rx, ry => by
    rcases h with ⟨fx, fy, rfl⟩ | ⟨a, rfl, rfl, rfl⟩
    · exact eqAt_V rx ry fx fy
    · cases rx; cases ry; exact SeqAt.EqAt.same _
  | n + 1, x, y, b, u, v, A, hu, h, rx, ry => by
    rcases h with h | ⟨a, c, xs, ys, e, rfl, rfl, hs, he, hb⟩
    · exact EqB.at I n x y b u v A (by omega) h rx ry
    · cases rx; cases ry
      by_cases q : a = c
      · subst q
        rw [EqB.det I (n + 1) (.ref a) b (.inr ⟨a, a, xs, ys, e, rfl, rfl, hs, he, hb⟩)]; exact SeqAt.EqAt.same _
      · rw [hb]
        refine SeqAt.EqAt.of_refs q (sq_both I (by omega) hs fun i x y e1 e2 u v r1 r2 => EqB.at I n x y (e i) u v A.in1 ?_ (he i x y e1 e2) r1 r2).1
        show A.units + 1 + n < cLine
        omega
theorem op_sqB {X : Cx} (hu : X.A.units + 64 < cLine) {pins : List (Addr × Obj)} {σ : L2.St} {H : Hp} {s : Shared} {a c : Addr} {Q : VK} (I : Inv X pins σ H s) :
    (rSqB X.K a c H (fun b => Q (.bl b) H) → wpAny (model X.prog X.w) X.A (compareOp .Eq (.ref a) (.ref c)) (EP X pins σ Q) X.xe s) ∧ (rSqB X.K a c H (fun b => Q (.bl (!b)) H) → wpAny (model X.prog X.w) X.A (compareOp .NotEq (.ref a) (.ref c)) (EP X pins σ Q) X.xe s) := by
  have key : ∀ {n : Nat} {xs ys : List V} {e : Nat → Bool}, n ≤ 16 → sameSq X.K H a c xs ys → (∀ (i : Nat) (x y : V), xs[i]? = some x → ys[i]? = some y → EqB X.K H n x y (e i)) → _ := fun {n xs ys e} hn hs he => sq_both (A := X.A) I (by omega) hs fun i x y e1 e2 u v r1 r2 => EqB.at I n x y (e i) u v X.A.in1 (by show X.A.units + 1 + n < cLine; omega) (he i x y e1 e2) r1 r2
  refine ⟨fun ⟨n, xs, ys, e, hn, hs, he, q⟩ => ?_, fun ⟨n, xs, ys, e, hn, hs, he, q⟩ => ?_⟩
  · exact (key hn hs he).1 X.prog X.w X.xe _ ⟨.bl _, H, I, rfl, q⟩
  · exact (key hn hs he).2 X.prog X.w X.xe _ ⟨.bl _, H, I, rfl, q⟩
def uEq (K : PySem.W.Frag) : R2 := fun x y H Q => match x, y with
  | .int i, .int j => Q (.bl (decide (i = j))) H
  | .str i, .str j => Q (.bl (decide (i = j))) H
  | .bl i, .bl j => Q (.bl (decide (i = j))) H
  | .non, .non => Q (.bl true) H
  | .ref a, .ref b => rEqD K (.ref a) (.ref b) H Q ∨ rSqB K a b H (fun k => Q (.bl k) H)
  | x, y => (scal x y = true ∧ Q (.bl (decide (x = y))) H) ∨ rEqD K x y H Q
def uNe (K : PySem.W.Frag) : R2 := fun x y H Q => match x, y with
  | .int i, .int j => Q (.bl (!decide (i = j))) H
  | .str i, .str j => Q (.bl (!decide (i = j))) H
  | .bl i, .bl j => Q (.bl (!decide (i = j))) H
  | .non, .non => Q (.bl false) H
  | .ref a, .ref b => rNeD K (.ref a) (.ref b) H Q ∨ rSqB K a b H (fun k => Q (.bl (!k)) H)
  | x, y => (scal x y = true ∧ Q (.bl (!decide (x = y))) H) ∨ rNeD K x y H Q
def uIs : R2 := fun x y H Q => match x, y with
  | x, .non => Q (.bl (decide (x = .non))) H
  | .bl a, .bl b => Q (.bl (decide (a = b))) H
  | _, _ => False
def uIsNot : R2 := fun x y H Q => match x, y with
  | x, .non => Q (.bl (!decide (x = .non))) H
  | .bl a, .bl b => Q (.bl (!decide (a = b))) H
  | _, _ => False
def uIn (K : PySem.W.Frag) : R2 := fun x y H Q => match x, y with
  | .str i, .str j => Q (.bl (!(Builtin.Str.occurrences j i 0 j.length 1).isEmpty)) H
  | x, y => rIn K false x y H Q
def uNotIn (K : PySem.W.Frag) : R2 := fun x y H Q => match x, y with
  | .str i, .str j => Q (.bl (!(!(Builtin.Str.occurrences j i 0 j.length 1).isEmpty))) H
  | x, y => rIn K true x y H Q

section
variable {X : Cx}
theorem op_uAdd : OpR X (binaryOp .Add) (uAdd X.K) := by
  intro pins s σ H x y v u Q I rx ry h
  cases x <;> cases y <;> first | exact h.elim | skip
  · exact op_add pins s σ H _ _ _ _ Q I rx ry ⟨_, _, rfl, rfl, h⟩
  · exact op_add_str pins s σ H _ _ _ _ Q I rx ry ⟨_, _, rfl, rfl, h.1, h.2⟩
  · rcases h with h | h
    · exact op_cat pins s σ H _ _ _ _ Q I rx ry h
    · exact op_catA pins s σ H _ _ _ _ Q I rx ry h
theorem op_uSub : OpR X (binaryOp .Sub) uSub := by
  intro pins s σ H x y v u Q I rx ry h
  cases x <;> cases y <;> first | exact h.elim | skip
  exact op_sub pins s σ H _ _ _ _ Q I rx ry ⟨_, _, rfl, rfl, h⟩
theorem op_uMul : OpR X (binaryOp .Mult) uMul := by
  intro pins s σ H x y v u Q I rx ry h
  cases x <;> cases y <;> first | exact h.elim | skip
  rcases h with ⟨h | h, q⟩
  · exact op_mul pins s σ H _ _ _ _ Q I rx ry ⟨_, _, rfl, rfl, h, q⟩
  · exact op_mulW pins s σ H _ _ _ _ Q I rx ry ⟨_, _, rfl, rfl, h, q⟩
theorem op_uDiv : OpR X (binaryOp .FloorDiv) uDiv := by
  intro pins s σ H x y v u Q I rx ry h
  cases x <;> cases y <;> first | exact h.elim | skip
  exact op_fdivW pins s σ H _ _ _ _ Q I rx ry ⟨_, _, rfl, rfl, h.1, h.2⟩
theorem op_uMod : OpR X (binaryOp .Mod) uMod := by
  intro pins s σ H x y v u Q I rx ry h
  cases x <;> cases y <;> first | exact h.elim | skip
  exact op_mod pins s σ H _ _ _ _ Q I rx ry ⟨_, _, rfl, rfl, h.1, h.2⟩
theorem op_uPow : OpR X (binaryOp .Pow) uPow := by
  intro pins s σ H x y v u Q I rx ry h
  cases x <;> cases y <;> first | exact h.elim | skip
  exact op_pow pins s σ H _ _ _ _ Q I rx ry ⟨_, _, rfl, rfl, h.1, h.2⟩
theorem un_uNeg : UnR X (unaryOp .USub) uNeg := by
  intro pins s σ H x v Q I rx h
  cases x <;> first | exact h.elim | skip
  exact un_neg pins s σ H _ _ Q I rx ⟨_, rfl, h⟩
theorem op_ltP (hu : X.A.units < cLine) {pins : List (Addr × Obj)} {s : Shared} {σ : L2.St} {H : Hp} {a b : Addr} {Q : VK} (I : Inv X pins σ H s) (h : rLtP X.K a b H Q) :
    wpAny (model X.prog X.w) X.A (compareOp .Lt (.ref a) (.ref b)) (EP X pins σ Q) X.xe s := by
  obtain ⟨xs, ys, ha, hb, hk, q⟩ := h
  obtain ⟨us, r1, p1, _⟩ := I.tuple ha
  obtain ⟨vs, r2, p2, _⟩ := I.tuple hb
  have l1 := r1.length
  have l2 := r2.length
  have both : ∀ (j : Nat) (h1 : j < us.toArray.size) (h2 : j < vs.toArray.size), ∃ x y : V, xs[j]? = some x ∧ ys[j]? = some y ∧ RelV x us.toArray[j] ∧ RelV y vs.toArray[j] := by
    intro j h1 h2
    have k1 : j < us.length := by simpa using h1
    have k2 : j < vs.length := by simpa using h2
    obtain ⟨u, eu, ru⟩ := Vals.get r1 (List.getElem?_eq_getElem (show j < xs.length by omega))
    obtain ⟨v, ev, rv⟩ := Vals.get r2 (List.getElem?_eq_getElem (show j < ys.length by omega))
    refine ⟨_, _, List.getElem?_eq_getElem (show j < xs.length by omega), List.getElem?_eq_getElem (show j < ys.length by omega), ?_, ?_⟩
    · rw [List.getElem?_eq_getElem k1] at eu
      have : us.toArray[j] = u := by simpa using Option.some.inj eu
      rw [this]; exact ru
    · rw [List.getElem?_eq_getElem k2] at ev
      have : vs.toArray[j] = v := by simpa using Option.some.inj ev
      rw [this]; exact rv
  have R := Ob.RcOp.tuples_lt (A := X.A) (s := s) (e := fun j => decide (xs[j]? = ys[j]?)) (r := ltV2 xs ys) p1 p2 hu (fun j h1 h2 => by
    obtain ⟨x, y, ex, ey, rx, ry⟩ := both j h1 h2
    have k := hk j x y ex ey
    rw [ex, ey]
    cases x <;> cases y <;> first | exact Bool.noConfusion (show false = true from k) | skip
    · rename_i i i'
      obtain ⟨t, et⟩ := rx
      obtain ⟨t', et'⟩ := ry
      rw [et, et', show decide (some (V.int i) = some (V.int i')) = (i == i') by rw [Bool.eq_iff_iff]; simp]
      exact SeqAt.EqAt.int_int _ _ _ _
    · rename_i i i'
      obtain ⟨t, et⟩ := rx
      obtain ⟨t', et'⟩ := ry
      rw [et, et', show decide (some (V.str i) = some (V.str i')) = (i == i') by rw [Bool.eq_iff_iff]; simp]
      exact SeqAt.EqAt.str_str _ _ _ _) (fun j h1 h2 _ => by
    obtain ⟨x, y, ex, ey, rx, ry⟩ := both j h1 h2
    have k := hk j x y ex ey
    rw [show ltV2 xs ys j = ltV1 x y by unfold ltV2; rw [ex, ey]]
    cases x <;> cases y <;> first | exact Bool.noConfusion (show false = true from k) | skip
    · obtain ⟨t, et⟩ := rx
      obtain ⟨t', et'⟩ := ry
      rw [et, et']
      exact Ob.RcOp.lt_int _ _ _ _
    · obtain ⟨t, et⟩ := rx
      obtain ⟨t', et'⟩ := ry
      rw [et, et']
      exact fun _ _ _ _ h => PyProof.Rows.lt_str (by simpa [ltV1] using h))
  rw [show us.toArray.size = xs.length by simpa using l1.symm, show vs.toArray.size = ys.length by simpa using l2.symm] at R
  exact R X.prog X.w X.xe (EP X pins σ Q) ⟨.bl _, H, I, rfl, q⟩
theorem op_uLt (hu : X.A.units + 64 < cLine) : OpR X (compareOp .Lt) (uLt X.K) := by
  intro pins s σ H x y v u Q I rx ry h
  cases x <;> cases y <;> first | exact h.elim | skip
  · exact op_lt pins s σ H _ _ _ _ Q I rx ry ⟨_, _, rfl, rfl, h⟩
  · exact op_lt_str pins s σ H _ _ _ _ Q I rx ry ⟨_, _, rfl, rfl, h⟩
  · rcases h with h | h
    · exact op_ltT (by omega) pins s σ H _ _ _ _ Q I rx ry h
    · cases rx; cases ry; exact op_ltP (by omega) I h
theorem op_uLe : OpR X (compareOp .LtE) uLe := by
  intro pins s σ H x y v u Q I rx ry h
  cases x <;> cases y <;> first | exact h.elim | skip
  · exact op_le pins s σ H _ _ _ _ Q I rx ry ⟨_, _, rfl, rfl, h⟩
  · exact op_le_str pins s σ H _ _ _ _ Q I rx ry ⟨_, _, rfl, rfl, h⟩
theorem op_uGt : OpR X (compareOp .Gt) uGt := by
  intro pins s σ H x y v u Q I rx ry h
  cases x <;> cases y <;> first | exact h.elim | skip
  · exact op_gt pins s σ H _ _ _ _ Q I rx ry ⟨_, _, rfl, rfl, h⟩
  · exact op_gt_str pins s σ H _ _ _ _ Q I rx ry ⟨_, _, rfl, rfl, h⟩
theorem op_uGe : OpR X (compareOp .GtE) uGe := by
  intro pins s σ H x y v u Q I rx ry h
  cases x <;> cases y <;> first | exact h.elim | skip
  · exact op_ge pins s σ H _ _ _ _ Q I rx ry ⟨_, _, rfl, rfl, h⟩
  · exact op_ge_str pins s σ H _ _ _ _ Q I rx ry ⟨_, _, rfl, rfl, h⟩
theorem V_int_dec {i j : Int} : decide (V.int i = V.int j) = decide (i = j) := by
  rw [Bool.eq_iff_iff]; simp
theorem V_str_dec {i j : Str} : decide (V.str i = V.str j) = decide (i = j) := by
  rw [Bool.eq_iff_iff]; simp
theorem V_bl_dec {i j : Bool} : decide (V.bl i = V.bl j) = decide (i = j) := by
  rw [Bool.eq_iff_iff]; simp
theorem op_uEq (hu : X.A.units + 64 < cLine) : OpR X (compareOp .Eq) (uEq X.K) := by
  intro pins s σ H x y v u Q I rx ry h
  have gen : (scal x y = true ∧ Q (.bl (decide (x = y))) H) ∨ rEqD X.K x y H Q → _ := fun z => (op_eq.or (op_eqD hu)) pins s σ H x y v u Q I rx ry z
  cases x <;> cases y <;> first | exact gen h | skip
  · exact gen (.inl ⟨rfl, h⟩)
  · exact gen (.inl ⟨rfl, by rw [V_bl_dec]; exact h⟩)
  · exact gen (.inl ⟨rfl, by rw [V_int_dec]; exact h⟩)
  · exact gen (.inl ⟨rfl, by rw [V_str_dec]; exact h⟩)
  · rcases h with h | h
    · exact gen (.inr h)
    · cases rx; cases ry; exact (op_sqB hu I).1 h
theorem op_uNe (hu : X.A.units + 64 < cLine) : OpR X (compareOp .NotEq) (uNe X.K) := by
  intro pins s σ H x y v u Q I rx ry h
  have gen : (scal x y = true ∧ Q (.bl (!decide (x = y))) H) ∨ rNeD X.K x y H Q → _ := fun z => (op_ne.or (op_neD hu)) pins s σ H x y v u Q I rx ry z
  cases x <;> cases y <;> first | exact gen h | skip
  · exact gen (.inl ⟨rfl, h⟩)
  · exact gen (.inl ⟨rfl, by rw [V_bl_dec]; exact h⟩)
  · exact gen (.inl ⟨rfl, by rw [V_int_dec]; exact h⟩)
  · exact gen (.inl ⟨rfl, by rw [V_str_dec]; exact h⟩)
  · rcases h with h | h
    · exact gen (.inr h)
    · cases rx; cases ry; exact (op_sqB hu I).2 h
theorem op_uIs : OpR X (compareOp .Is) uIs := by
  intro pins s σ H x y v u Q I rx ry h
  cases y <;> first | (cases x <;> exact h.elim) | skip
  · exact op_isN pins s σ H _ _ _ _ Q I rx ry ⟨rfl, by cases x <;> exact h⟩
  · cases x <;> first | exact h.elim | skip
    exact op_is_bl pins s σ H _ _ _ _ Q I rx ry ⟨_, _, rfl, rfl, h⟩
theorem op_uIsNot : OpR X (compareOp .IsNot) uIsNot := by
  intro pins s σ H x y v u Q I rx ry h
  cases y <;> first | (cases x <;> exact h.elim) | skip
  · exact op_notN pins s σ H _ _ _ _ Q I rx ry ⟨rfl, by cases x <;> exact h⟩
  · cases x <;> first | exact h.elim | skip
    exact op_isnot_bl pins s σ H _ _ _ _ Q I rx ry ⟨_, _, rfl, rfl, h⟩
theorem op_uIn : OpR X (compareOp .In) (uIn X.K) := by
  intro pins s σ H x y v u Q I rx ry h
  cases x <;> cases y <;> first | exact op_in_str pins s σ H _ _ _ _ Q I rx ry ⟨_, _, rfl, rfl, h⟩ | exact op_in_seq pins s σ H _ _ _ _ Q I rx ry h
theorem op_uNotIn : OpR X (compareOp .NotIn) (uNotIn X.K) := by
  intro pins s σ H x y v u Q I rx ry h
  cases x <;> cases y <;> first | exact op_notin_str pins s σ H _ _ _ _ Q I rx ry ⟨_, _, rfl, rfl, h⟩ | exact op_notIn_seq pins s σ H _ _ _ _ Q I rx ry h
end

/-! ### items, lengths, kinds -/
def uIx (K : PySem.W.Frag) : R2 := fun x y H Q => match x, y with
  | .ref p, .int i => ∃ xs v, (SqL K H p xs ∨ SqT K H p xs) ∧ atI xs i = some v ∧ Q v H
  | .str z, .int i => ∃ c, z.length ≤ sizeLine ∧ atI z.cps.toList i = some c ∧ Q (.str ⟨#[c]⟩) H
  | _, _ => False
def uLen (K : PySem.W.Frag) : List V → Hp → VK → Prop := fun vs H Q => match vs with
  | [.ref p] => ∃ xs, (SqL K H p xs ∨ SqT K H p xs) ∧ Q (.int xs.length) H
  | [.str z] => z.length ≤ sizeLine ∧ Q (.int z.length) H
  | _ => False
def uInt : List V → Hp → VK → Prop := fun vs H Q => match vs with
  | [.int i] => Q (.int i) H
  | [.bl b] => Q (.int (if b then 1 else 0)) H
  | _ => False
def uMax : List V → Hp → VK → Prop := fun vs H Q => match vs with
  | [.int i, .int j] => Q (.int (if j > i then j else i)) H
  | _ => False
def uMin : List V → Hp → VK → Prop := fun vs H Q => match vs with
  | [.int i, .int j] => Q (.int (if j < i then j else i)) H
  | _ => False
def uAbs : List V → Hp → VK → Prop := fun vs H Q => match vs with
  | [.int i] => Q (.int (if i < 0 then -i else i)) H
  | _ => False
def uList (K : PySem.W.Frag) : List V → Hp → VK → Prop := fun vs H Q => match vs with
  | [.ref p] => ∃ xs, (SqL K H p xs ∨ SqT K H p xs) ∧ ∀ l, H l = none → Q (.ref l) (upd H l (.lst xs))
  | _ => False
def uTuple (K : PySem.W.Frag) : List V → Hp → VK → Prop := fun vs H Q => match vs with
  | [.ref p] => ∃ xs, (SqL K H p xs ∧ ∀ l, H l = none → Q (.ref l) (upd H l (.tup xs))) ∨ (SqT K H p xs ∧ Q (.ref p) H)
  | _ => False
/-- isinstance with one class -/
def uIsi (K : PySem.W.Frag) : List V → Hp → VK → Prop := fun vs H Q => match vs with
  | [x, c] => ∃ (t u : Value) (b : Bool), ClsV c u ∧ TyX K H x t ∧ PySem.W.kitOne K t u = some b ∧ Q (.bl b) H
  | _ => False
def tTru (K : PySem.W.Frag) (ta : TE) : TT := fun σ H Q => ta σ H fun x H' => ∃ k, TruV K x H' k ∧ Q k H'
def tCal (sp : Sp) (t : TA) : TE := fun σ H Q => t σ H fun vs H1 => sp vs H1 Q E0
section
variable {X : Cx}
theorem ix_uIx : IxR X (uIx X.K) := by
  intro ea eb pins s σ H x y v u Q I rx ry h hp
  cases x <;> cases y <;> first | exact h.elim | skip
  · obtain ⟨c, hz, ha, q⟩ := h
    exact ix_str ea eb pins s σ H _ _ _ _ Q I rx ry ⟨_, _, c, rfl, rfl, hz, ha, q⟩ hp
  · obtain ⟨xs, w, hl, ha, q⟩ := h
    rcases hl with hl | hl
    · exact ix_list ea eb pins s σ H _ _ _ _ Q I rx ry ⟨_, xs, _, w, rfl, rfl, hl, ha, q⟩ hp
    · exact ix_tup ea eb pins s σ H _ _ _ _ Q I rx ry ⟨_, xs, _, w, rfl, rfl, hl, ha, q⟩ hp
theorem call_uLen : CallR X (.builtin "len") (uLen X.K) := by
  intro pins s σ H vs us Q I r h
  rcases vs with _ | ⟨x, _ | ⟨y, t⟩⟩
  · exact h.elim
  · cases x <;> first | exact h.elim | skip
    · exact call_len pins s σ H _ _ Q I r ⟨_, _, rfl, ⟨h.1, rfl⟩, h.2⟩
    · obtain ⟨xs, hl, q⟩ := h
      refine call_len pins s σ H _ _ Q I r ⟨_, xs.length, rfl, ?_, q⟩
      rcases hl with hl | hl
      · exact .inl ⟨_, hl, rfl⟩
      · exact .inr ⟨_, hl, rfl⟩
  · cases x <;> exact h.elim
theorem call_uInt : CallR X (.type "int") uInt := by
  intro pins s σ H vs us Q I r h
  rcases vs with _ | ⟨x, _ | ⟨y, t⟩⟩
  · exact h.elim
  · cases x <;> first | exact h.elim | skip
    · exact call_int1 pins s σ H _ _ Q I r (.inr ⟨_, rfl, h⟩)
    · exact call_int1 pins s σ H _ _ Q I r (.inl ⟨_, rfl, h⟩)
  · cases x <;> exact h.elim
theorem call_uAbs : CallR X (.builtin "abs") uAbs := by
  intro pins s σ H vs us Q I r h
  rcases vs with _ | ⟨x, _ | ⟨y, t⟩⟩
  · exact h.elim
  · cases x <;> first | exact h.elim | skip
    exact call_abs pins s σ H _ _ Q I r ⟨_, rfl, h⟩
  · cases x <;> exact h.elim
theorem call_uMax (hc : X.calm = true) : CallR X (.builtin "max") uMax := by
  intro pins s σ H vs us Q I r h
  rcases vs with _ | ⟨x, _ | ⟨y, _ | ⟨z, t⟩⟩⟩
  · exact h.elim
  · cases x <;> exact h.elim
  · cases x <;> cases y <;> first | exact h.elim | skip
    exact call_max2 hc pins s σ H _ _ Q I r ⟨_, _, rfl, h⟩
  · cases x <;> cases y <;> exact h.elim
theorem call_uMin (hc : X.calm = true) : CallR X (.builtin "min") uMin := by
  intro pins s σ H vs us Q I r h
  rcases vs with _ | ⟨x, _ | ⟨y, _ | ⟨z, t⟩⟩⟩
  · exact h.elim
  · cases x <;> exact h.elim
  · cases x <;> cases y <;> first | exact h.elim | skip
    exact call_min2 hc pins s σ H _ _ Q I r ⟨_, _, rfl, h⟩
  · cases x <;> cases y <;> exact h.elim
theorem call_uList : CallR X (.type "list") (uList X.K) := by
  intro pins s σ H vs us Q I r h
  rcases vs with _ | ⟨x, _ | ⟨y, t⟩⟩
  · exact h.elim
  · cases x <;> first | exact h.elim | skip
    obtain ⟨xs, hl, q⟩ := h
    exact call_list_of pins s σ H _ _ Q I r ⟨_, xs, rfl, hl, q⟩
  · cases x <;> exact h.elim
theorem call_uTuple : CallR X (.type "tuple") (uTuple X.K) := by
  intro pins s σ H vs us Q I r h
  rcases vs with _ | ⟨x, _ | ⟨y, t⟩⟩
  · exact h.elim
  · cases x <;> first | exact h.elim | skip
    obtain ⟨xs, hl⟩ := h
    exact call_tuple_of pins s σ H _ _ Q I r ⟨_, xs, rfl, hl⟩
  · cases x <;> exact h.elim
theorem call_uIsi : CallR X (.builtin "isinstance") (uIsi X.K) := by
  intro pins s σ H vs us Q I r h
  rcases vs with _ | ⟨x, _ | ⟨y, _ | ⟨z, t⟩⟩⟩
  · exact h.elim
  · exact h.elim
  · obtain ⟨t, u, b, k, ty, e, q⟩ := h
    exact call_isi pins s σ H _ _ Q I r ⟨_, _, t, u, b, rfl, k, ty, e, q⟩
  · exact h.elim
theorem pt_u {a : Expr} {ta : TE} (ha : PE X a ta) (he : ∀ whole, isTrue a X.env whole = (do let v ← whole; standAt a.pos; holding [v] (truthy v)) := by intro _; rfl) : PT X a (tTru X.K ta) := pt_truth ha he
end

/-! ### a def of the text, as those who call it know it -/
structure Dfn (P : Program) (w : World) (K : PySem.W.Frag) (mg : Str → Option Value) (base : Heap) (k : Nat) (x : Str) (ps : List Str) (sp : Sp) : Prop where
  ex : ∃ (f : Addr) (fd : FuncData), mg x = some (.ref f) ∧ PySem.W.keepIn K (.ref f) = true ∧ Binds K fd ps [] ∧ FnOk P w K mg base CX0 k f fd ps sp
theorem nil_sp (sp : Sp) (t : TA) : tCall sp [] E0 t = tCal sp t := by
  funext σ H Q
  simp only [tCall, tCal, List.append_nil]
section
variable {X : Cx} {k : Nat} {x : Str} {ps : List Str} {sp : Sp} {p pos : Pos} {e : Expr} {es : List Expr} {t : TA}
theorem z_call (D : Dfn X.prog X.w X.K X.mg X.base k x ps sp) (hr : Room k X.A) (hg : Gl X x) (ha : PA X (e :: es) t) (hdb : (x == ("__debug__" : Str)) = false := by decide)
    (he : starEach (e :: es) X.env = (false, eval e X.env) :: starEach es X.env := by rfl) (hpl : (backTo pos (starEach es X.env)).any (·.1) = false := by rfl) : PE X (.Call (.Name x p) (e :: es) [] pos) (tCal sp t) := by
  obtain ⟨f, fd, hm, hk, hb, F⟩ := D.ex
  rw [← nil_sp]
  exact pe_call F hr hg hm hk hb .nil pass0 ha hdb he hpl
theorem z_call0 (D : Dfn X.prog X.w X.K X.mg X.base k x ps sp) (hr : Room k X.A) (hg : Gl X x) (hdb : (x == ("__debug__" : Str)) = false := by decide) : PE X (.Call (.Name x p) [] [] pos) (tCal sp tNil) := by
  obtain ⟨f, fd, hm, hk, hb, F⟩ := D.ex
  rw [← nil_sp]
  exact pe_call0 F hr hg hm hk hb .nil pass0 hdb
/-- a list or a tuple that is walked -/
def iSeq (K : PySem.W.Frag) (tl : TE) : TI := fun σ H R => iList K tl σ H R ∨ iTup K tl σ H R
theorem pi_seq {tg l : Expr} {tl : TE} (hl : PE X l tl) : PI X tg l (iSeq X.K tl) := by
  have h1 := pi_list (tg := tg) hl
  have h2 := pi_tup (tg := tg) hl
  refine ⟨fun pins s σ H R I h => ?_⟩
  rcases h with h | h
  · exact h1.run pins s σ H R I h
  · exact h2.run pins s σ H R I h
end

/-! ### the steps of a reading -/
def zNewL (xs : List V) (H : Hp) (Q : VK) : Prop := xs.length ≤ sizeLine ∧ ∀ p, H p = none → Q (.ref p) (upd H p (.lst xs))
def zNewT (xs : List V) (H : Hp) (Q : VK) : Prop := xs.length ≤ sizeLine ∧ ∀ p, H p = none → Q (.ref p) (upd H p (.tup xs))
section
variable {K : PySem.W.Frag} {σ : St} {H : Hp} {i : Nat} {v : V} {Q : VK} {QA : List V → Hp → Prop} {QB : Bool → Hp → Prop} {r : R2} {r1 : V → Hp → VK → Prop} {rl : List V → Hp → VK → Prop} {ta tb te : TE} {tr t : TA} {c u : TT} {sp : Sp} {xs : List V} {a b : Int} {x y : Str} {p q : Addr} {bb : Bool} {D : Ends} {t1 t2 : TS}
theorem z_var (h : σ[i]? = some (some v)) (k : Q v H) : tVar i σ H Q := ⟨v, h, k⟩
theorem z_c (k : Q v H) : tC v σ H Q := k
theorem z_op (k : ta σ H fun x H1 => tb σ H1 fun y H2 => r x y H2 Q) : tOp r ta tb σ H Q := k
theorem z_un (k : ta σ H fun x H1 => r1 x H1 Q) : tUn r1 ta σ H Q := k
theorem z_cb (k : t σ H fun vs H1 => rl vs H1 Q) : tCB rl t σ H Q := k
theorem z_cal (k : t σ H fun vs H1 => sp vs H1 Q E0) : tCal sp t σ H Q := k
theorem z_nil (k : QA [] H) : tNil σ H QA := k
theorem z_cons (k : ta σ H fun x H1 => tr σ H1 fun xs H2 => QA (x :: xs) H2) : tCons ta tr σ H QA := k
theorem z_lst (k : t σ H fun xs H1 => zNewL xs H1 Q) : tLst t σ H Q := k
theorem z_tup (k : t σ H fun xs H1 => zNewT xs H1 Q) : tTup t σ H Q := k
theorem z_newL (h : xs.length ≤ 100000) (k : ∀ p, H p = none → Q (.ref p) (upd H p (.lst xs))) : zNewL xs H Q := ⟨Nat.le_trans h (by decide), k⟩
theorem z_newT (h : xs.length ≤ 100000) (k : ∀ p, H p = none → Q (.ref p) (upd H p (.tup xs))) : zNewT xs H Q := ⟨Nat.le_trans h (by decide), k⟩
theorem z_test (k : te σ H fun x H' => ∃ k, x = .bl k ∧ QB k H') : tTest te σ H QB := k
theorem z_bl (k : QB bb H) : ∃ k, V.bl bb = .bl k ∧ QB k H := ⟨bb, rfl, k⟩
theorem z_tru (k : te σ H fun x H' => ∃ k, TruV K x H' k ∧ QB k H') : tTru K te σ H QB := k
theorem z_trub {P : Bool → Prop} (k : P bb) : ∃ k, TruV K (.bl bb) H k ∧ P k := ⟨bb, rfl, k⟩
theorem z_trui {P : Bool → Prop} (k : P (a != 0)) : ∃ k, TruV K (.int a) H k ∧ P k := ⟨_, rfl, k⟩
theorem z_and (k : c σ H fun b H1 => if b = true then u σ H1 QB else QB false H1) : tAnd c u σ H QB := k
theorem z_or (k : c σ H fun b H1 => if b = true then QB true H1 else u σ H1 QB) : tOr c u σ H QB := k
theorem z_not (k : c σ H fun b H1 => QB (!b) H1) : tNot c σ H QB := k
theorem z_andV (k : ta σ H fun x H1 => ∃ c, x = .bl c ∧ if c = true then tb σ H1 Q else Q (.bl false) H1) : tAndV ta tb σ H Q := k
theorem z_orV (k : ta σ H fun x H1 => ∃ c, x = .bl c ∧ if c = true then Q (.bl true) H1 else tb σ H1 Q) : tOrV ta tb σ H Q := k
theorem z_notV (k : ta σ H fun x H1 => ∃ c, x = .bl c ∧ Q (.bl (!c)) H1) : tNotV ta σ H Q := k
theorem z_if (k : c σ H fun b H1 => if b = true then ta σ H1 Q else tb σ H1 Q) : tIf c ta tb σ H Q := k
theorem z_bl1 {P : Bool → Prop} (k : P bb) : ∃ k, V.bl bb = .bl k ∧ P k := ⟨bb, rfl, k⟩
-- operators
theorem z_add (k : Q (.int (a + b)) H) : uAdd K (.int a) (.int b) H Q := k
theorem z_addS (h : x.length + y.length ≤ 100000) (k : Q (.str (x ++ y)) H) : uAdd K (.str x) (.str y) H Q := ⟨Nat.le_trans h (by decide), k⟩
theorem z_addL {xs ys : List V} (h1 : H p = some (.lst xs)) (h2 : H q = some (.lst ys)) (h : xs.length + ys.length ≤ 100000) (k : ∀ l, H l = none → Q (.ref l) (upd H l (.lst (xs ++ ys)))) : uAdd K (.ref p) (.ref q) H Q :=
  .inl ⟨p, q, xs, ys, rfl, rfl, h1, h2, Nat.le_trans h (by decide), k⟩
theorem z_sub (k : Q (.int (a - b)) H) : uSub (.int a) (.int b) H Q := k
theorem z_mul (h : MulOk a b) (k : Q (.int (a * b)) H) : uMul (.int a) (.int b) H Q := ⟨h, k⟩
theorem z_div (h : CDivW a b) (k : Q (.int (a / b)) H) : uDiv (.int a) (.int b) H Q := ⟨h, k⟩
theorem z_mod (h : 0 < b) (k : Q (.int (a % b)) H) : uMod (.int a) (.int b) H Q := ⟨h, k⟩
theorem z_pow (h : CPow a b) (k : Q (.int (a ^ b.toNat)) H) : uPow (.int a) (.int b) H Q := ⟨h, k⟩
theorem z_neg (k : Q (.int (-a)) H) : uNeg (.int a) H Q := k
theorem z_lt (k : Q (.bl (decide (a < b))) H) : uLt K (.int a) (.int b) H Q := k
theorem z_ltS (k : Q (.bl (decide (x.cps.toList < y.cps.toList))) H) : uLt K (.str x) (.str y) H Q := k
theorem z_ltIS {i j : Int} {x y : Str} (h1 : SqT K H p [.int i, .str x]) (h2 : SqT K H q [.int j, .str y]) (k : Q (.bl (if i = j then decide (x.cps.toList < y.cps.toList) else decide (i < j))) H) : uLt K (.ref p) (.ref q) H Q := by
  refine .inr ⟨_, _, h1, h2, ?_, ?_⟩
  · intro n u v hu hv
    match n with
    | 0 => cases hu; cases hv; rfl
    | 1 => cases hu; cases hv; rfl
    | n + 2 => cases hu
  · have e : Ob.lexAt (fun n => decide (([V.int i, .str x])[n]? = ([V.int j, .str y])[n]?)) (ltV2 [.int i, .str x] [.int j, .str y]) (decide (([V.int i, .str x] : List V).length < ([V.int j, .str y] : List V).length)) 0 (min ([V.int i, .str x] : List V).length ([V.int j, .str y] : List V).length) = (if i = j then decide (x.cps.toList < y.cps.toList) else decide (i < j)) := by
      show Ob.lexAt _ _ false 0 2 = _
      rw [Ob.lexAt_succ, Ob.lexAt_succ, Ob.lexAt_zero]
      by_cases h : i = j
      · subst h
        rw [if_pos (by simp), if_pos rfl]
        by_cases h2 : x = y
        · subst h2
          rw [if_pos (by simp), decide_eq_false (List.lt_irrefl _)]
        · rw [if_neg (by simp [h2])]; rfl
      · rw [if_neg (by simp [h]), if_neg h]; rfl
    rw [e]; exact k
theorem z_le (k : Q (.bl (decide (a ≤ b))) H) : uLe (.int a) (.int b) H Q := k
theorem z_leS (k : Q (.bl (!decide (y.cps.toList < x.cps.toList))) H) : uLe (.str x) (.str y) H Q := k
theorem z_gt (k : Q (.bl (decide (b < a))) H) : uGt (.int a) (.int b) H Q := k
theorem z_gtS (k : Q (.bl (decide (y.cps.toList < x.cps.toList))) H) : uGt (.str x) (.str y) H Q := k
theorem z_ge (k : Q (.bl (decide (b ≤ a))) H) : uGe (.int a) (.int b) H Q := k
theorem z_geS (k : Q (.bl (!decide (x.cps.toList < y.cps.toList))) H) : uGe (.str x) (.str y) H Q := k
theorem z_eq (k : Q (.bl (decide (a = b))) H) : uEq K (.int a) (.int b) H Q := k
theorem z_eqS (k : Q (.bl (decide (x = y))) H) : uEq K (.str x) (.str y) H Q := k
theorem z_eqB {a b : Bool} (k : Q (.bl (decide (a = b))) H) : uEq K (.bl a) (.bl b) H Q := k
theorem z_eqN (k : Q (.bl true) H) : uEq K .non .non H Q := k
theorem z_eqIS (k : Q (.bl false) H) : uEq K (.int a) (.str x) H Q := .inl ⟨rfl, by rw [decide_eq_false (by intro z; cases z)]; exact k⟩
theorem z_eqSI (k : Q (.bl false) H) : uEq K (.str x) (.int a) H Q := .inl ⟨rfl, by rw [decide_eq_false (by intro z; cases z)]; exact k⟩
theorem z_eqD {d e : PyData} (h1 : Dp K H (.ref p) d) (h2 : Dp K H (.ref q) e) (s1 : SeqAt.shaped d = true) (s2 : SeqAt.shaped e = true) (k : Q (.bl (PyData.eqv d e)) H) : uEq K (.ref p) (.ref q) H Q := .inl ⟨d, e, h1, h2, s1, s2, k⟩
theorem z_ne (k : Q (.bl (!decide (a = b))) H) : uNe K (.int a) (.int b) H Q := k
theorem z_neS (k : Q (.bl (!decide (x = y))) H) : uNe K (.str x) (.str y) H Q := k
theorem z_neB {a b : Bool} (k : Q (.bl (!decide (a = b))) H) : uNe K (.bl a) (.bl b) H Q := k
theorem z_neN (k : Q (.bl false) H) : uNe K .non .non H Q := k
theorem z_neIS (k : Q (.bl true) H) : uNe K (.int a) (.str x) H Q := .inl ⟨rfl, by rw [decide_eq_false (by intro z; cases z)]; exact k⟩
theorem z_neSI (k : Q (.bl true) H) : uNe K (.str x) (.int a) H Q := .inl ⟨rfl, by rw [decide_eq_false (by intro z; cases z)]; exact k⟩
theorem z_neD {d e : PyData} (h1 : Dp K H (.ref p) d) (h2 : Dp K H (.ref q) e) (s1 : SeqAt.shaped d = true) (s2 : SeqAt.shaped e = true) (k : Q (.bl (!PyData.eqv d e)) H) : uNe K (.ref p) (.ref q) H Q := .inl ⟨d, e, h1, h2, s1, s2, k⟩
theorem allB_true {xs ys : List V} {e : Nat → Bool} (hl : xs.length = ys.length) (h : ∀ i, i < xs.length → e i = true) : allB xs ys e = true := by
  unfold allB
  rw [← hl, Nat.min_self, beq_self_eq_true, Bool.and_true, List.all_eq_true]
  exact fun i hi => h i (List.mem_range.mp hi)
/-- surely equal -/
theorem z_eqSame {n : Nat} {xs ys : List V} (hn : n ≤ 16) (hs : sameSq K H p q xs ys) (hl : xs.length = ys.length) (he : ∀ (i : Nat) (x y : V), xs[i]? = some x → ys[i]? = some y → EqB K H n x y true) (k : Q (.bl true) H) : uEq K (.ref p) (.ref q) H Q :=
  .inr ⟨n, xs, ys, fun _ => true, hn, hs, he, by rw [allB_true hl fun _ _ => rfl]; exact k⟩
theorem z_neSame {n : Nat} {xs ys : List V} (hn : n ≤ 16) (hs : sameSq K H p q xs ys) (hl : xs.length = ys.length) (he : ∀ (i : Nat) (x y : V), xs[i]? = some x → ys[i]? = some y → EqB K H n x y true) (k : Q (.bl false) H) : uNe K (.ref p) (.ref q) H Q :=
  .inr ⟨n, xs, ys, fun _ => true, hn, hs, he, by rw [allB_true hl fun _ _ => rfl]; exact k⟩
theorem EqB.self : ∀ {v : V}, (flatV v = true ∨ ∃ a, v = .ref a) → EqB K H 0 v v true := by
  intro v h
  rcases h with h | ⟨a, rfl⟩
  · refine .inl ⟨h, h, ?_⟩
    cases v <;> first | (cases h; done) | (simp [eqV]; done)
  · exact .inr ⟨a, rfl, rfl, rfl⟩
theorem EqB.up {v w : V} {b : Bool} : ∀ {n m : Nat}, n ≤ m → EqB K H n v w b → EqB K H m v w b := by
  intro n m h e
  induction h with
  | refl => exact e
  | step _ ih => exact .inl ih
theorem EqB.sq {n : Nat} {a c : Addr} {xs ys : List V} (hs : sameSq K H a c xs ys) (hl : xs.length = ys.length) (he : ∀ (i : Nat) (x y : V), xs[i]? = some x → ys[i]? = some y → EqB K H n x y true) : EqB K H (n + 1) (.ref a) (.ref c) true :=
  .inr ⟨a, c, xs, ys, fun _ => true, rfl, rfl, hs, he, (allB_true hl fun _ _ => rfl).symm⟩
theorem EqB.str {x y : Str} : EqB K H 0 (.str x) (.str y) (decide (x = y)) := .inl ⟨rfl, rfl, by simp only [eqV]; rw [Bool.eq_iff_iff, decide_eq_true_iff, beq_iff_eq]⟩
theorem EqB.int {x y : Int} : EqB K H 0 (.int x) (.int y) (decide (x = y)) := .inl ⟨rfl, rfl, by simp only [eqV]; rw [Bool.eq_iff_iff, decide_eq_true_iff, beq_iff_eq]⟩
theorem EqB.of {n : Nat} {a c : Addr} {xs ys : List V} {e : Nat → Bool} {b : Bool} (hs : sameSq K H a c xs ys) (he : ∀ (i : Nat) (x y : V), xs[i]? = some x → ys[i]? = some y → EqB K H n x y (e i)) (hb : b = allB xs ys e) : EqB K H (n + 1) (.ref a) (.ref c) b := .inr ⟨a, c, xs, ys, e, rfl, rfl, hs, he, hb⟩
theorem z_eqOf {n : Nat} {xs ys : List V} {e : Nat → Bool} {b : Bool} (hn : n ≤ 16) (hs : sameSq K H p q xs ys) (he : ∀ (i : Nat) (x y : V), xs[i]? = some x → ys[i]? = some y → EqB K H n x y (e i)) (hb : b = allB xs ys e) (k : Q (.bl b) H) : uEq K (.ref p) (.ref q) H Q := .inr ⟨n, xs, ys, e, hn, hs, he, by rw [← hb]; exact k⟩
theorem z_neOf {n : Nat} {xs ys : List V} {e : Nat → Bool} {b : Bool} (hn : n ≤ 16) (hs : sameSq K H p q xs ys) (he : ∀ (i : Nat) (x y : V), xs[i]? = some x → ys[i]? = some y → EqB K H n x y (e i)) (hb : b = allB xs ys e) (k : Q (.bl (!b)) H) : uNe K (.ref p) (.ref q) H Q := .inr ⟨n, xs, ys, e, hn, hs, he, by rw [← hb]; exact k⟩
theorem z_is (k : Q (.bl (decide (v = .non))) H) : uIs v .non H Q := by cases v <;> exact k
theorem z_isNot (k : Q (.bl (!decide (v = .non))) H) : uIsNot v .non H Q := by cases v <;> exact k
theorem z_isB {a b : Bool} (k : Q (.bl (decide (a = b))) H) : uIs (.bl a) (.bl b) H Q := k
theorem z_isNotB {a b : Bool} (k : Q (.bl (!decide (a = b))) H) : uIsNot (.bl a) (.bl b) H Q := k
theorem z_in (h : SqL K H p xs ∨ SqT K H p xs) (hx : flatV v = true) (ha : xs.all flatV = true) (k : Q (.bl (inV v xs)) H) : uIn K v (.ref p) H Q := by
  cases v <;> exact ⟨p, xs, rfl, h, hx, ha, k⟩
theorem z_notIn (h : SqL K H p xs ∨ SqT K H p xs) (hx : flatV v = true) (ha : xs.all flatV = true) (k : Q (.bl (!inV v xs)) H) : uNotIn K v (.ref p) H Q := by
  cases v <;> exact ⟨p, xs, rfl, h, hx, ha, k⟩
theorem z_isbb {a : Bool} (k : Q (.bl true) H) : uIsi K [.bl a, .ty "bool"] H Q := ⟨_, _, true, .ty _, .base (.bl a), rfl, k⟩
theorem z_isbi {a : Bool} (k : Q (.bl true) H) : uIsi K [.bl a, .ty "int"] H Q := ⟨_, _, true, .ty _, .base (.bl a), rfl, k⟩
theorem z_isll (h : H p = some (.lst xs)) (k : Q (.bl true) H) : uIsi K [.ref p, .ty "list"] H Q := ⟨_, _, true, .ty _, .base (.lst h), rfl, k⟩
theorem z_istt (h : H p = some (.tup xs)) (k : Q (.bl true) H) : uIsi K [.ref p, .ty "tuple"] H Q := ⟨_, _, true, .ty _, .base (.tup h), rfl, k⟩
theorem z_chain {r r' : R2} {tc : TE} (k : ta σ H fun x H1 => tb σ H1 fun y H2 => r x y H2 fun z H3 => ∃ k, z = .bl k ∧ if k = true then tc σ H3 fun w H4 => r' y w H4 Q else Q (.bl false) H3) : tChain r r' ta tb tc σ H Q := k
-- items, built-ins
theorem z_ix (h : SqL K H p xs ∨ SqT K H p xs) (e : atI xs a = some v) (k : Q v H) : uIx K (.ref p) (.int a) H Q := ⟨xs, v, h, e, k⟩
theorem z_len (h : SqL K H p xs ∨ SqT K H p xs) (k : Q (.int xs.length) H) : uLen K [.ref p] H Q := ⟨xs, h, k⟩
theorem z_int (k : Q (.int a) H) : uInt [.int a] H Q := k
theorem z_max (k : Q (.int (if b > a then b else a)) H) : uMax [.int a, .int b] H Q := k
theorem z_min (k : Q (.int (if b < a then b else a)) H) : uMin [.int a, .int b] H Q := k
theorem z_abs (k : Q (.int (if a < 0 then -a else a)) H) : uAbs [.int a] H Q := k
theorem z_list (h : SqL K H p xs ∨ SqT K H p xs) (k : ∀ l, H l = none → Q (.ref l) (upd H l (.lst xs))) : uList K [.ref p] H Q := ⟨xs, h, k⟩
theorem z_tupleL (h : SqL K H p xs) (k : ∀ l, H l = none → Q (.ref l) (upd H l (.tup xs))) : uTuple K [.ref p] H Q := ⟨xs, .inl ⟨h, k⟩⟩
theorem z_tupleT (h : SqT K H p xs) (k : Q (.ref p) H) : uTuple K [.ref p] H Q := ⟨xs, .inr ⟨h, k⟩⟩
theorem z_isi {w : V} {t' u' : Value} (h1 : ClsV w u') (h2 : TyX K H v t') (h3 : PySem.W.kitOne K t' u' = some bb) (k : Q (.bl bb) H) : uIsi K [v, w] H Q := ⟨t', u', bb, h1, h2, h3, k⟩
theorem z_isii (k : Q (.bl true) H) : uIsi K [.int a, .ty "int"] H Q := ⟨_, _, true, .ty _, .base (.int a), rfl, k⟩
theorem z_isib (k : Q (.bl false) H) : uIsi K [.int a, .ty "bool"] H Q := ⟨_, _, false, .ty _, .base (.int a), rfl, k⟩
-- statements
theorem z_seq (k : t1 { D with nx := t2 D } σ H) : tSeq t1 t2 D σ H := k
theorem z_next (k : D.nx σ H) : tNext D σ H := k
theorem z_brk (k : D.bk σ H) : tBreak D σ H := k
theorem z_cont (k : D.ct σ H) : tCont D σ H := k
theorem z_ret (k : te σ H D.rt) : tRet te D σ H := k
theorem z_retN (k : D.rt .non H) : tRetN D σ H := k
theorem z_asg (k : te σ H fun x H1 => D.nx (σ.set i (some x)) H1) : tAsg te (gName i) D σ H := k
theorem z_drop (k : te σ H fun _ H1 => D.nx σ H1) : tDrop te D σ H := k
theorem z_ifS (k : c σ H fun b H1 => if b = true then t1 D σ H1 else t2 D σ H1) : tIfS c t1 t2 D σ H := k
theorem z_iteT {A B : Prop} (k : A) : if true = true then A else B := by rw [if_pos rfl]; exact k
theorem z_iteF {A B : Prop} (k : B) : if false = true then A else B := by rw [if_neg Bool.false_ne_true]; exact k
theorem z_iteT' {A B : Prop} (e : bb = true) (k : A) : if bb = true then A else B := by rw [if_pos e]; exact k
theorem z_iteF' {A B : Prop} (e : bb = false) (k : B) : if bb = true then A else B := by rw [if_neg (by rw [e]; exact Bool.false_ne_true)]; exact k
theorem z_ite {A B : Prop} (h1 : bb = true → A) (h2 : bb = false → B) : if bb = true then A else B := by
  cases bb with
  | true => rw [if_pos rfl]; exact h1 rfl
  | false => rw [if_neg Bool.false_ne_true]; exact h2 rfl
theorem z_itD {A B P : Prop} [Decidable P] (h1 : P → A) (h2 : ¬ P → B) : if decide P = true then A else B := by
  by_cases h : P
  · rw [if_pos (decide_eq_true h)]; exact h1 h
  · rw [if_neg (by rw [decide_eq_false h]; exact Bool.false_ne_true)]; exact h2 h
theorem z_itN {A B P : Prop} [Decidable P] (h1 : ¬ P → A) (h2 : P → B) : if (!decide P) = true then A else B := by
  by_cases h : P
  · rw [decide_eq_true h, if_neg (by decide)]; exact h2 h
  · rw [decide_eq_false h, if_pos (by decide)]; exact h1 h
-- loops
def zRng (g : TG) (tb : TS) (D : Ends) (σ : St) (lo : Int) (n : Nat) (H1 : Hp) : Prop := ∃ W : Nat → Nat → St → Hp → Prop, (∃ m, W 0 m σ H1) ∧ ∀ i m σ H, W i m σ H →
  ((Itr lo n).stop i H ∧ D.nx σ H) ∨ ((Itr lo n).go i H ∧ ∃ N : St → Hp → Prop, (∀ σ' H', N σ' H' → ∃ m', m' < m ∧ W (i + 1) m' σ' H') ∧ ∀ x H', (Itr lo n).yld i H x H' → g x σ H' fun σ2 H2 => tb { D with nx := N, ct := N, bk := D.nx } σ2 H2)
def zRng1 (g : TG) (tb : TS) (D : Ends) (σ : St) (vs : List V) (H1 : Hp) : Prop := ∃ j : Int, vs = [.int j] ∧ -(2 ^ 62) ≤ j ∧ j < 2 ^ 62 ∧ zRng g tb D σ 0 j.toNat H1
def zRng2 (g : TG) (tb : TS) (D : Ends) (σ : St) (vs : List V) (H1 : Hp) : Prop := ∃ i j : Int, vs = [.int i, .int j] ∧ (-(2 ^ 62) ≤ i ∧ i < 2 ^ 62 ∧ -(2 ^ 62) ≤ j ∧ j < 2 ^ 62) ∧ zRng g tb D σ i (j - i).toNat H1
def zIt (K : PySem.W.Frag) (g : TG) (tb : TS) (D : Ends) (σ : St) (v : V) (H1 : Hp) : Prop := ∃ a xs, v = .ref a ∧ ((SqL K H1 a xs ∧ ∃ W : Nat → Nat → St → Hp → Prop, (∃ m, W 0 m σ H1) ∧ ∀ i m σ H, W i m σ H →
  ((Itl K a).stop i H ∧ D.nx σ H) ∨ ((Itl K a).go i H ∧ ∃ N : St → Hp → Prop, (∀ σ' H', N σ' H' → ∃ m', m' < m ∧ W (i + 1) m' σ' H') ∧ ∀ x H', (Itl K a).yld i H x H' → g x σ H' fun σ2 H2 => tb { D with nx := N, ct := N, bk := D.nx } σ2 H2)) ∨
  (SqT K H1 a xs ∧ ∃ W : Nat → Nat → St → Hp → Prop, (∃ m, W 0 m σ H1) ∧ ∀ i m σ H, W i m σ H →
  ((Itt K a).stop i H ∧ D.nx σ H) ∨ ((Itt K a).go i H ∧ ∃ N : St → Hp → Prop, (∀ σ' H', N σ' H' → ∃ m', m' < m ∧ W (i + 1) m' σ' H') ∧ ∀ x H', (Itt K a).yld i H x H' → g x σ H' fun σ2 H2 => tb { D with nx := N, ct := N, bk := D.nx } σ2 H2)))
def iSq (K : PySem.W.Frag) (tl : TE) : TI := fun σ H R => tl σ H fun x H1 => ∃ a, x = .ref a ∧ (((∃ xs, SqL K H1 a xs) ∧ R (Itl K a) H1) ∨ ((∃ xs, SqT K H1 a xs) ∧ R (Itt K a) H1))
variable {g : TG} {ti : TS}
theorem z_for1 (k : t σ H fun vs H1 => zRng1 g ti D σ vs H1) : tFor (iRng1 t) g ti D σ H := k
theorem z_for2 (k : t σ H fun vs H1 => zRng2 g ti D σ vs H1) : tFor (iRng2 t) g ti D σ H := k
theorem z_rng1 {j : Int} (hb : j ≤ 1000000) (h : zRng g ti D σ 0 j.toNat H) (hb2 : -1000000 ≤ j) : zRng1 g ti D σ [.int j] H := ⟨j, rfl, by omega, by omega, h⟩
theorem z_rng2 {i j : Int} (h : zRng g ti D σ i (j - i).toNat H) (hb : -1000000 ≤ i ∧ i ≤ 1000000 ∧ -1000000 ≤ j ∧ j ≤ 1000000) : zRng2 g ti D σ [.int i, .int j] H := ⟨i, j, rfl, by omega, h⟩
/-- over a range: Pv by turns done, slots, heap -/
theorem z_rng {lo : Int} {n v : Nat} (Pv : Nat → St → Hp → Prop) (h0 : Pv 0 σ H)
    (hs : ∀ i σ H, i < n → Pv i σ H → ti { D with nx := Pv (i + 1), ct := Pv (i + 1), bk := D.nx } (σ.set v (some (.int (lo + i)))) H) (hd : ∀ σ H, Pv n σ H → D.nx σ H) : zRng (gName v) ti D σ lo n H :=
  for_range (g := gName v) (tb := ti) (D := D) Pv h0 hs hd
theorem z_while (Pv : Nat → St → Hp → Prop) (m : Nat) (h0 : Pv m σ H)
    (hs : ∀ m σ H, Pv m σ H → c σ H fun b H1 => if b = true then ∃ N : St → Hp → Prop, (∀ σ' H', N σ' H' → ∃ m', m' < m ∧ Pv m' σ' H') ∧ ti { D with nx := N, ct := N, bk := D.nx } σ H1 else D.nx σ H1) : tWhile c ti D σ H :=
  ⟨Pv, ⟨m, h0⟩, hs⟩
theorem z_turn {m : Nat} {Pv : Nat → St → Hp → Prop} {bk : St → Hp → Prop} (k : ti { D with nx := fun σ' H' => ∃ m', m' < m ∧ Pv m' σ' H', ct := fun σ' H' => ∃ m', m' < m ∧ Pv m' σ' H', bk := bk } σ H) :
    ∃ N : St → Hp → Prop, (∀ σ' H', N σ' H' → ∃ m', m' < m ∧ Pv m' σ' H') ∧ ti { D with nx := N, ct := N, bk := bk } σ H := ⟨_, fun _ _ h => h, k⟩
theorem mul1 (h : -1000000000000000000 < a ∧ a < 1000000000000000000) : MulOk a b := .inl (.inl (by omega))
theorem mul2 (h : -1000000000000000000 < b ∧ b < 1000000000000000000) : MulOk a b := .inl (.inr (by omega))
theorem div1 (h : 0 < b ∧ b < 1000000000000000000) : CDivW a b := wide_div h.1 (b := 64) (by omega) (by decide) (by decide)
end
/-! ### heaps -/
theorem lk_ne {H : Hp} {a b : Addr} {o u : HO} (h : a ≠ b) (e : H a = some u) : upd H b o a = some u := by rw [upd_ne h]; exact e
theorem ne_n {H : Hp} {a b : Addr} {o : HO} (h' : H b = none) (h : H a = some o) : a ≠ b := ne_of_none h h'
theorem sqL_new {K : PySem.W.Frag} {H : Hp} {a b : Addr} {o : HO} {xs : List V} (h : H b = none) (e : SqL K H a xs) : SqL K (upd H b o) a xs := by
  rcases e with (e | ⟨u, e⟩) | e
  · exact .inl (.inl (lk_ne (ne_of_none e h) e))
  · exact .inl (.inr ⟨u, lk_ne (ne_of_none e h) e⟩)
  · exact .inr e
theorem sqT_new {K : PySem.W.Frag} {H : Hp} {a b : Addr} {o : HO} {xs : List V} (h : H b = none) (e : SqT K H a xs) : SqT K (upd H b o) a xs := by
  rcases e with (e | ⟨u, e⟩) | e
  · exact .inl (.inl (lk_ne (ne_of_none e h) e))
  · exact .inl (.inr ⟨u, lk_ne (ne_of_none e h) e⟩)
  · exact .inr e
theorem sqL_ne {K : PySem.W.Frag} {H : Hp} {a b : Addr} {o : HO} {xs : List V} (h : a ≠ b) (e : SqL K H a xs) : SqL K (upd H b o) a xs := by
  rcases e with (e | ⟨u, e⟩) | e
  · exact .inl (.inl (lk_ne h e))
  · exact .inl (.inr ⟨u, lk_ne h e⟩)
  · exact .inr e
theorem sqT_ne {K : PySem.W.Frag} {H : Hp} {a b : Addr} {o : HO} {xs : List V} (h : a ≠ b) (e : SqT K H a xs) : SqT K (upd H b o) a xs := by
  rcases e with (e | ⟨u, e⟩) | e
  · exact .inl (.inl (lk_ne h e))
  · exact .inl (.inr ⟨u, lk_ne h e⟩)
  · exact .inr e
/-- what stands there is no state of draws -/
def NotSt (o : HO) : Prop := ∀ (L : Addr) (k a : Int), o ≠ .lst [.ref L, .int k, .int a]
theorem NotSt.ints {ns : List Int} : NotSt (.lst (ns.map V.int)) := fun L k a z => by
  cases ns with
  | nil => cases z
  | cons x r => injection z with z; injection z with z1 _; cases z1
theorem NotSt.refs {ps : List Addr} : NotSt (.lst (ps.map V.ref)) := fun L k a z => by
  cases ps with
  | nil => cases z
  | cons x r => cases r with
    | nil => cases z
    | cons y t => injection z with z; injection z with _ z; injection z with z _; cases z
theorem NotSt.strs {xs : List Str} : NotSt (.lst (xs.map V.str)) := fun L k a z => by
  cases xs with
  | nil => cases z
  | cons x r => injection z with z; injection z with z1 _; cases z1
/-- all that was tracked is as it was, but the states of draws -/
def ExD (H H' : Hp) : Prop := ∀ a o, NotSt o → H a = some o → H' a = some o
theorem ExD.lk {a : Addr} {H H' : Hp} {o : HO} (x : ExD H H') (e : H a = some o) (h : NotSt o) : H' a = some o := x a o h e
theorem ExD.refl (H : Hp) : ExD H H := fun _ _ _ e => e
theorem ExD.trans {H H1 H2 : Hp} (x : ExD H H1) (y : ExD H1 H2) : ExD H H2 := fun a o h e => y a o h (x a o h e)
theorem ExD.new {p : Addr} {H H1 : Hp} {o : HO} (h : H p = none) (x : ExD H H1) : ExD H (upd H1 p o) := fun a u ha e => lk_ne (ne_of_none e h) (x a u ha e)
theorem ExD.of {H H' : Hp} (x : Same H H') : ExD H H' := fun a o _ e => x a o e
theorem ExD.st {st L : Addr} {k a : Int} {H H1 : Hp} {o : HO} (e : H st = some (.lst [.ref L, .int k, .int a])) (x : ExD H H1) : ExD H (upd H1 st o) := fun b u hb f => by
  refine lk_ne (fun z => ?_) (x b u hb f)
  subst z; rw [e] at f; exact hb L k a (Option.some.inj f).symm
theorem Same.lk {a : Addr} {H H' : Hp} {o : HO} (x : Same H H') (e : H a = some o) : H' a = some o := x a o e
theorem lk_new {H : Hp} {a b : Addr} {o u : HO} (h : H b = none) (e : H a = some u) : upd H b o a = some u := lk_ne (ne_of_none e h) e
theorem lk_df {H : Hp} {a b : Addr} {o u w : HO} (e : H a = some u) (f : H b = some w) (d : u ≠ w) : upd H b o a = some u := lk_ne (fun z => by subst z; rw [e] at f; exact d (Option.some.inj f)) e

section
variable {K : PySem.W.Frag} {σ : St} {H : Hp} {Q : VK} {te ta tb : TE} {t u : TS} {D : Ends} {p : Addr} {xs : List V} {a : Int} {v : V} {j : Nat}
theorem z_cutI (k : t { D with nx := u D } σ H) : tCut t u D σ H := ⟨u D, k, fun _ _ h => h⟩
theorem z_cut (M : St → Hp → Prop) (k : t { D with nx := M } σ H) (h : ∀ σ' H', M σ' H' → u D σ' H') : tCut t u D σ H := ⟨M, k, h⟩
theorem z_asgS (k : te σ H fun x H1 => ta σ H1 fun o H2 => tb σ H2 fun i H3 => rSetL o i x H3 fun H4 => D.nx σ H4) : tAsg te (gSub ta tb rSetL) D σ H := k
theorem z_setL {Q : Hp → Prop} (h : H p = some (.lst xs)) (e : ixN xs.length a = some j) (k : Q (upd H p (.lst (xs.set j v)))) : rSetL (.ref p) (.int a) v H Q := ⟨p, xs, a, j, rfl, rfl, h, e, k⟩
theorem z_app (h : H p = some (.lst xs)) (hl : xs.length < 100000) (k : Q .non (upd H p (.lst (xs ++ [v])))) : rAppend (.ref p) [v] H Q := ⟨p, xs, v, rfl, rfl, h, Nat.lt_of_lt_of_le hl (by decide), k⟩
theorem tyL (h : H p = some (.lst xs)) : tyV K "list" (.ref p) H := Or.inl ⟨rfl, _, Or.inl (Or.inl h)⟩
theorem z_bm {T : String} {r : V → List V → Hp → VK → Prop} {to : TE} {t : TA} (k : to σ H fun x H1 => tyV K T x H1 ∧ t σ H1 fun xs H2 => r x xs H2 Q) : tBM K T r to t σ H Q := k
theorem upd_self {H : Hp} {a : Addr} {o : HO} (h : H a = some o) : upd H a o = H := by
  funext b; unfold upd; split
  · rename_i e; subst e; exact h.symm
  · rfl
theorem ix_at {α : Type} {xs : List α} {i : Int} (h0 : 0 ≤ i) (h1 : i < xs.length) : ixN xs.length i = some i.toNat := by
  unfold ixN; rw [if_pos h0, if_pos h1]
theorem at_int {ns : List Int} {i : Int} (h0 : 0 ≤ i) (h1 : i < ns.length) : atI (ns.map V.int) i = some (.int (ns.getD i.toNat 0)) := by
  unfold atI
  rw [ix_at h0 (by simpa using h1)]
  have : i.toNat < ns.length := by omega
  simp [List.getD, this]
end
/-- a body keeps its promise, from the promise as it was handed in -/
def Wd (T : TS) (N : List Str) (n : Nat) (sp : Sp) : Prop := ∀ (vs : List V) (H : Hp) (Q : VK) (E : XK), sp vs H Q E → vs.length = n ∧ T { nx := fun _ H' => Q .non H', rt := Q } (start N vs) H

/-! ### comprehensions -/
def zLcR (g : TG) (tt : TT) (te : TE) (vs : List Nat) (σ : St) (lo : Int) (n : Nat) (H1 : Hp) (Q : VK) : Prop := ∀ D, H1 D = none → ∃ W : Nat → Nat → Hp → Prop, (∃ m, W 0 m (upd H1 D (.lst []))) ∧ ∀ i m H, W i m H →
  ((Itr lo n).stop i H ∧ Q (.ref D) H) ∨ ((Itr lo n).go i H ∧ ∃ Nx : Hp → Prop, (∀ H', Nx H' → ∃ m', m' < m ∧ W (i + 1) m' H') ∧ ∀ x H', (Itr lo n).yld i H x H' → g x (wipe σ vs) H' fun σ2 H2 => wipe σ2 vs = wipe σ vs ∧ tt σ2 H2 fun b H3 =>
    if b = true then te σ2 H3 fun y H4 => ∃ acc, H4 D = some (.lst acc) ∧ acc.length < sizeLine ∧ Nx (upd H4 D (.lst (acc ++ [y]))) else Nx H3)
def zLcR1 (g : TG) (tt : TT) (te : TE) (vs : List Nat) (σ : St) (as : List V) (H1 : Hp) (Q : VK) : Prop := ∃ j : Int, as = [.int j] ∧ -(2 ^ 62) ≤ j ∧ j < 2 ^ 62 ∧ zLcR g tt te vs σ 0 j.toNat H1 Q
def zLcL (K : PySem.W.Frag) (g : TG) (tt : TT) (te : TE) (vs : List Nat) (σ : St) (a : Addr) (H1 : Hp) (Q : VK) : Prop := ∀ D, H1 D = none → ∃ W : Nat → Nat → Hp → Prop, (∃ m, W 0 m (upd H1 D (.lst []))) ∧ ∀ i m H, W i m H →
  ((Itl K a).stop i H ∧ Q (.ref D) H) ∨ ((Itl K a).go i H ∧ ∃ Nx : Hp → Prop, (∀ H', Nx H' → ∃ m', m' < m ∧ W (i + 1) m' H') ∧ ∀ x H', (Itl K a).yld i H x H' → g x (wipe σ vs) H' fun σ2 H2 => wipe σ2 vs = wipe σ vs ∧ tt σ2 H2 fun b H3 =>
    if b = true then te σ2 H3 fun y H4 => ∃ acc, H4 D = some (.lst acc) ∧ acc.length < sizeLine ∧ Nx (upd H4 D (.lst (acc ++ [y]))) else Nx H3)
def zLcT (K : PySem.W.Frag) (g : TG) (tt : TT) (te : TE) (vs : List Nat) (σ : St) (a : Addr) (H1 : Hp) (Q : VK) : Prop := ∀ D, H1 D = none → ∃ W : Nat → Nat → Hp → Prop, (∃ m, W 0 m (upd H1 D (.lst []))) ∧ ∀ i m H, W i m H →
  ((Itt K a).stop i H ∧ Q (.ref D) H) ∨ ((Itt K a).go i H ∧ ∃ Nx : Hp → Prop, (∀ H', Nx H' → ∃ m', m' < m ∧ W (i + 1) m' H') ∧ ∀ x H', (Itt K a).yld i H x H' → g x (wipe σ vs) H' fun σ2 H2 => wipe σ2 vs = wipe σ vs ∧ tt σ2 H2 fun b H3 =>
    if b = true then te σ2 H3 fun y H4 => ∃ acc, H4 D = some (.lst acc) ∧ acc.length < sizeLine ∧ Nx (upd H4 D (.lst (acc ++ [y]))) else Nx H3)
def zLcS (K : PySem.W.Frag) (g : TG) (tt : TT) (te : TE) (vs : List Nat) (σ : St) (x : V) (H1 : Hp) (Q : VK) : Prop := ∃ a, x = .ref a ∧ (((∃ xs, SqL K H1 a xs) ∧ zLcL K g tt te vs σ a H1 Q) ∨ ((∃ xs, SqT K H1 a xs) ∧ zLcT K g tt te vs σ a H1 Q))
def zForS (K : PySem.W.Frag) (g : TG) (tb : TS) (D : Ends) (σ : St) (x : V) (H1 : Hp) : Prop := ∃ a, x = .ref a ∧ (((∃ xs, SqL K H1 a xs) ∧ ∃ W : Nat → Nat → St → Hp → Prop, (∃ m, W 0 m σ H1) ∧ ∀ i m σ H, W i m σ H →
  ((Itl K a).stop i H ∧ D.nx σ H) ∨ ((Itl K a).go i H ∧ ∃ N : St → Hp → Prop, (∀ σ' H', N σ' H' → ∃ m', m' < m ∧ W (i + 1) m' σ' H') ∧ ∀ x H', (Itl K a).yld i H x H' → g x σ H' fun σ2 H2 => tb { D with nx := N, ct := N, bk := D.nx } σ2 H2)) ∨
  ((∃ xs, SqT K H1 a xs) ∧ ∃ W : Nat → Nat → St → Hp → Prop, (∃ m, W 0 m σ H1) ∧ ∀ i m σ H, W i m σ H →
  ((Itt K a).stop i H ∧ D.nx σ H) ∨ ((Itt K a).go i H ∧ ∃ N : St → Hp → Prop, (∀ σ' H', N σ' H' → ∃ m', m' < m ∧ W (i + 1) m' σ' H') ∧ ∀ x H', (Itt K a).yld i H x H' → g x σ H' fun σ2 H2 => tb { D with nx := N, ct := N, bk := D.nx } σ2 H2)))

section
open PyProof.Rows
theorem pi_sq {X : Cx} {tg l : Expr} {tl : TE} (hl : PE X l tl) : PI X tg l (iSq X.K tl) := by
  refine ⟨fun pins s σ H R I h => ?_⟩
  refine thn (hl.run pins s σ H _ I h) fun v s1 ⟨x, H1, I1, r1, q1⟩ => ?_
  obtain ⟨a, e, q1⟩ := q1
  subst e
  cases r1
  rcases q1 with ⟨⟨xs, hq⟩, q⟩ | ⟨⟨xs, hq⟩, q⟩
  · obtain ⟨its, rv, p, hz⟩ := I1.list hq
    refine wpAny_pyIter_list p.isList ?_
    refine ⟨s1.heap.objs.size, [s1.heap.objs.size], _, _, H1, rfl, I1.kept (t' := s1.toks) fun b o e => Heap.get?_push_of_some _ e, turn_list a _, ⟨_, Heap.get?_push_size _ rfl, rfl, rfl⟩, fun b hb => ?_, q⟩
    have e : b = s1.heap.objs.size := by simpa using hb
    subst e
    exact I1.fpOk (Nat.le_refl _) (I1.hok.fresh (Nat.le_refl _))
  · obtain ⟨its, rv, p, hz⟩ := I1.tuple hq
    refine wpAny_pyIter_tuple (show s1.heap.IsTuple a its.toArray from p) ?_
    refine ⟨s1.heap.objs.size, [s1.heap.objs.size], _, _, H1, rfl, I1.kept (t' := s1.toks) fun b o e => Heap.get?_push_of_some _ e, turn_tuple a _, ⟨_, Heap.get?_push_size _ rfl, rfl, rfl⟩, fun b hb => ?_, q⟩
    have e : b = s1.heap.objs.size := by simpa using hb
    subst e
    exact I1.fpOk (Nat.le_refl _) (I1.hok.fresh (Nat.le_refl _))
end
section
variable {K : PySem.W.Frag} {σ : L2.St} {H : Hp} {Q : VK} {D : Ends} {tt : TT} {te tl : TE} {ta : TA} {vs : List Nat} {g : TG} {tb : TS} {a : Addr} {xs : List V}
theorem z_forSq (k : tl σ H fun x H1 => zForS K g tb D σ x H1) : tFor (iSq K tl) g tb D σ H := k
theorem z_lcSq (k : tl σ H fun x H1 => zLcS K g tt te vs σ x H1 Q) : tLc (iSq K tl) g tt te vs σ H Q := k
theorem z_lc1 (k : ta σ H fun as H1 => zLcR1 g tt te vs σ as H1 Q) : tLc (iRng1 ta) g tt te vs σ H Q := k
theorem z_yes {QB : Bool → Hp → Prop} (k : QB true H) : tYes σ H QB := k
theorem z_accum {D : Addr} {acc : List V} {P : List V → Prop} (h : H D = some (.lst acc)) (hl : acc.length < 100000) (k : P acc) : ∃ acc, H D = some (.lst acc) ∧ acc.length < sizeLine ∧ P acc :=
  ⟨acc, h, Nat.lt_of_lt_of_le hl (by decide), k⟩
/-- over a list that stays -/
theorem z_forL (h : SqL K H a xs) (Pv : Nat → L2.St → Hp → Prop) (h0 : Pv 0 σ H) (hl : ∀ i σ' H', i ≤ xs.length → Pv i σ' H' → SqL K H' a xs)
    (hs : ∀ i x σ' H', xs[i]? = some x → Pv i σ' H' → g x σ' H' fun σ2 H2 => tb { D with nx := Pv (i + 1), ct := Pv (i + 1), bk := D.nx } σ2 H2) (hd : ∀ σ' H', Pv xs.length σ' H' → D.nx σ' H') : zForS K g tb D σ (.ref a) H :=
  ⟨a, rfl, .inl ⟨⟨xs, h⟩, for_list Pv h0 hl hs hd⟩⟩
theorem z_forT (h : SqT K H a xs) (Pv : Nat → L2.St → Hp → Prop) (h0 : Pv 0 σ H) (hl : ∀ i σ' H', i ≤ xs.length → Pv i σ' H' → SqT K H' a xs)
    (hs : ∀ i x σ' H', xs[i]? = some x → Pv i σ' H' → g x σ' H' fun σ2 H2 => tb { D with nx := Pv (i + 1), ct := Pv (i + 1), bk := D.nx } σ2 H2) (hd : ∀ σ' H', Pv xs.length σ' H' → D.nx σ' H') : zForS K g tb D σ (.ref a) H :=
  ⟨a, rfl, .inr ⟨⟨xs, h⟩, for_tup Pv h0 hl hs hd⟩⟩
theorem z_gName {v : V} {i : Nat} {P : L2.St → Hp → Prop} (k : P (σ.set i (some v)) H) : gName i v σ H P := k
theorem z_lcr1 {j : Int} (hb : -1000000 ≤ j ∧ j ≤ 1000000) (k : zLcR g tt te vs σ 0 j.toNat H Q) : zLcR1 g tt te vs σ [.int j] H Q := ⟨j, rfl, by omega, by omega, k⟩
theorem z_lcr {lo : Int} {n : Nat} (Pv : Addr → Nat → Hp → Prop) (h0 : ∀ D, H D = none → Pv D 0 (upd H D (.lst [])))
    (hs : ∀ D i H', H D = none → i < n → Pv D i H' → g (.int (lo + i)) (wipe σ vs) H' fun σ2 H2 => wipe σ2 vs = wipe σ vs ∧ tt σ2 H2 fun b H3 =>
      if b = true then te σ2 H3 fun y H4 => ∃ acc, H4 D = some (.lst acc) ∧ acc.length < sizeLine ∧ Pv D (i + 1) (upd H4 D (.lst (acc ++ [y]))) else Pv D (i + 1) H3)
    (hd : ∀ D H', H D = none → Pv D n H' → Q (.ref D) H') : zLcR g tt te vs σ lo n H Q :=
  fun D hD => lc_range (Pv D) (h0 D hD) (fun i H' hi p => hs D i H' hD hi p) (fun H' p => hd D H' hD p)
theorem z_lcl (h : SqL K H a xs) (Pv : Addr → Nat → Hp → Prop) (h0 : ∀ D, H D = none → Pv D 0 (upd H D (.lst []))) (hl : ∀ D i H', H D = none → i ≤ xs.length → Pv D i H' → SqL K H' a xs)
    (hs : ∀ D i x H', H D = none → xs[i]? = some x → Pv D i H' → g x (wipe σ vs) H' fun σ2 H2 => wipe σ2 vs = wipe σ vs ∧ tt σ2 H2 fun b H3 =>
      if b = true then te σ2 H3 fun y H4 => ∃ acc, H4 D = some (.lst acc) ∧ acc.length < sizeLine ∧ Pv D (i + 1) (upd H4 D (.lst (acc ++ [y]))) else Pv D (i + 1) H3)
    (hd : ∀ D H', H D = none → Pv D xs.length H' → Q (.ref D) H') : zLcS K g tt te vs σ (.ref a) H Q :=
  ⟨a, rfl, .inl ⟨⟨xs, h⟩, fun D hD => lc_list (Pv D) (h0 D hD) (fun i H' hi p => hl D i H' hD hi p) (fun i x H' hi p => hs D i x H' hD hi p) (fun H' p => hd D H' hD p)⟩⟩
theorem z_lct (h : SqT K H a xs) (Pv : Addr → Nat → Hp → Prop) (h0 : ∀ D, H D = none → Pv D 0 (upd H D (.lst []))) (hl : ∀ D i H', H D = none → i ≤ xs.length → Pv D i H' → SqT K H' a xs)
    (hs : ∀ D i x H', H D = none → xs[i]? = some x → Pv D i H' → g x (wipe σ vs) H' fun σ2 H2 => wipe σ2 vs = wipe σ vs ∧ tt σ2 H2 fun b H3 =>
      if b = true then te σ2 H3 fun y H4 => ∃ acc, H4 D = some (.lst acc) ∧ acc.length < sizeLine ∧ Pv D (i + 1) (upd H4 D (.lst (acc ++ [y]))) else Pv D (i + 1) H3)
    (hd : ∀ D H', H D = none → Pv D xs.length H' → Q (.ref D) H') : zLcS K g tt te vs σ (.ref a) H Q :=
  ⟨a, rfl, .inr ⟨⟨xs, h⟩, fun D hD => lc_tup (Pv D) (h0 D hD) (fun i H' hi p => hl D i H' hD hi p) (fun i x H' hi p => hs D i x H' hD hi p) (fun H' p => hd D H' hD p)⟩⟩
end
/-! ### zip -/
def zZip (K : PySem.W.Frag) (g : TG) (tb : TS) (D : Ends) (σ : L2.St) (vs : List V) (H1 : Hp) : Prop := ∃ a b xs ys, vs = [.ref a, .ref b] ∧ ((SqL K H1 a xs ∧ SqL K H1 b ys ∧ ∃ W : Nat → Nat → L2.St → Hp → Prop, (∃ m, W 0 m σ H1) ∧ ∀ i m σ H, W i m σ H →
  ((Itz K a b).stop i H ∧ D.nx σ H) ∨ ((Itz K a b).go i H ∧ ∃ N : L2.St → Hp → Prop, (∀ σ' H', N σ' H' → ∃ m', m' < m ∧ W (i + 1) m' σ' H') ∧ ∀ x H', (Itz K a b).yld i H x H' → g x σ H' fun σ2 H2 => tb { D with nx := N, ct := N, bk := D.nx } σ2 H2)) ∨
  (SqT K H1 a xs ∧ SqT K H1 b ys ∧ ∃ W : Nat → Nat → L2.St → Hp → Prop, (∃ m, W 0 m σ H1) ∧ ∀ i m σ H, W i m σ H →
  ((RZ.ItzT K a b).stop i H ∧ D.nx σ H) ∨ ((RZ.ItzT K a b).go i H ∧ ∃ N : L2.St → Hp → Prop, (∀ σ' H', N σ' H' → ∃ m', m' < m ∧ W (i + 1) m' σ' H') ∧ ∀ x H', (RZ.ItzT K a b).yld i H x H' → g x σ H' fun σ2 H2 => tb { D with nx := N, ct := N, bk := D.nx } σ2 H2)))
theorem Same.sqT {K : PySem.W.Frag} {H H' : Hp} {a : Addr} {xs : List V} (e : Same H H') (h : SqT K H a xs) : SqT K H' a xs := by
  rcases h with (h | ⟨o, h⟩) | h
  · exact .inl (.inl (e _ _ h))
  · exact .inl (.inr ⟨o, e _ _ h⟩)
  · exact .inr h
theorem Same.new {H H' : Hp} {p : Addr} {o : HO} (h : H' p = none) (e : Same H H') : Same H (upd H' p o) := fun b u q => lk_ne (ne_of_none (e b u q) h) (e b u q)
section
variable {K : PySem.W.Frag} {σ : L2.St} {H : Hp} {D : Ends} {ta : TA} {g : TG} {tb : TS} {a b : Addr} {xs ys : List V}
theorem z_forZ (k : ta σ H fun vs H1 => zZip K g tb D σ vs H1) : tFor (RZ.iZipA K ta) g tb D σ H := k
theorem z_zip {u v : Nat} (h : (SqL K H a xs ∧ SqL K H b ys) ∨ (SqT K H a xs ∧ SqT K H b ys)) (Pv : Nat → L2.St → Hp → Prop) (h0 : Pv 0 σ H) (hk : ∀ i σ' H', Pv i σ' H' → Same H H')
    (hs : ∀ i x y p σ' H', xs[i]? = some x → ys[i]? = some y → Pv i σ' H' → H' p = none → tb { D with nx := Pv (i + 1), ct := Pv (i + 1), bk := D.nx } ((σ'.set u (some x)).set v (some y)) (upd H' p (.tup [x, y])))
    (hd : ∀ σ' H', Pv (min xs.length ys.length) σ' H' → D.nx σ' H') : zZip K (gTup K 2 (gCons (gName u) (gCons (gName v) gNil))) tb D σ [.ref a, .ref b] H := by
  refine ⟨a, b, xs, ys, rfl, ?_⟩
  rcases h with ⟨h1, h2⟩ | ⟨h1, h2⟩
  · refine .inl ⟨h1, h2, fun i m σ H => m = min xs.length ys.length - i ∧ i ≤ min xs.length ys.length ∧ Pv i σ H, ⟨_, rfl, Nat.zero_le _, h0⟩, ?_⟩
    rintro i m σ' H' ⟨rfl, hi, p⟩
    have s := hk i σ' H' p
    have q1 := Same.seq s h1
    have q2 := Same.seq s h2
    by_cases hlt : i < min xs.length ys.length
    · have l1 : i < xs.length := by omega
      have l2 : i < ys.length := by omega
      refine .inr ⟨⟨xs, ys, xs[i], ys[i], q1, q2, by simp [l1], by simp [l2]⟩, Pv (i + 1), fun σ2 H2 p' => ⟨_, by omega, rfl, by omega, p'⟩, ?_⟩
      rintro x H2 ⟨T, x1, y1, rfl, hT, rfl, f1, f2⟩
      exact ⟨T, [x1, y1], rfl, .inl (.inl upd_same), rfl, x1, [y1], rfl, y1, [], rfl, rfl, hs i x1 y1 T σ' H' (f1 xs q1) (f2 ys q2) p hT⟩
    · have e : i = min xs.length ys.length := by omega
      subst e
      exact .inl ⟨⟨xs, ys, q1, q2, by omega⟩, hd σ' H' p⟩
  · refine .inr ⟨h1, h2, fun i m σ H => m = min xs.length ys.length - i ∧ i ≤ min xs.length ys.length ∧ Pv i σ H, ⟨_, rfl, Nat.zero_le _, h0⟩, ?_⟩
    rintro i m σ' H' ⟨rfl, hi, p⟩
    have s := hk i σ' H' p
    have q1 := Same.sqT s h1
    have q2 := Same.sqT s h2
    by_cases hlt : i < min xs.length ys.length
    · have l1 : i < xs.length := by omega
      have l2 : i < ys.length := by omega
      refine .inr ⟨⟨xs, ys, xs[i], ys[i], q1, q2, by simp [l1], by simp [l2]⟩, Pv (i + 1), fun σ2 H2 p' => ⟨_, by omega, rfl, by omega, p'⟩, ?_⟩
      rintro x H2 ⟨T, x1, y1, rfl, hT, rfl, f1, f2⟩
      exact ⟨T, [x1, y1], rfl, .inl (.inl upd_same), rfl, x1, [y1], rfl, y1, [], rfl, rfl, hs i x1 y1 T σ' H' (f1 xs q1) (f2 ys q2) p hT⟩
    · have e : i = min xs.length ys.length := by omega
      subst e
      exact .inl ⟨⟨xs, ys, q1, q2, by omega⟩, hd σ' H' p⟩
end
/-- an item of a list of ints -/
theorem map_int {xs : List Int} {i : Nat} {x : V} (h : (xs.map V.int)[i]? = some x) : i < xs.length ∧ x = .int (xs.getD i 0) := by
  rw [List.getElem?_map] at h
  cases e : xs[i]? with
  | none => rw [e] at h; cases h
  | some y =>
    rw [e] at h
    obtain ⟨l, _⟩ := List.getElem?_eq_some_iff.mp e
    exact ⟨l, by rw [List.getD_eq_getElem?_getD, e]; exact (Option.some.inj h).symm⟩
/-- a, b = a pair -/
theorem z_gTup2 {K : PySem.W.Frag} {H : Hp} {σ : L2.St} {P : L2.St → Hp → Prop} {t : Addr} {x y : V} {u v : Nat} (h : SqT K H t [x, y]) (k : P ((σ.set u (some x)).set v (some y)) H) : gTup K 2 (gCons (gName u) (gCons (gName v) gNil)) (.ref t) σ H P :=
  ⟨t, [x, y], rfl, h, rfl, x, [y], rfl, y, [], rfl, rfl, k⟩
/-! ### enumerate -/
def zEnum (K : PySem.W.Frag) (g : TG) (tb : TS) (D : Ends) (σ : L2.St) (vs : List V) (H1 : Hp) : Prop := ∃ a xs, vs = [.ref a] ∧ SqL K H1 a xs ∧ ∃ W : Nat → Nat → L2.St → Hp → Prop, (∃ m, W 0 m σ H1) ∧ ∀ i m σ H, W i m σ H →
  ((Ite K a).stop i H ∧ D.nx σ H) ∨ ((Ite K a).go i H ∧ ∃ N : L2.St → Hp → Prop, (∀ σ' H', N σ' H' → ∃ m', m' < m ∧ W (i + 1) m' σ' H') ∧ ∀ x H', (Ite K a).yld i H x H' → g x σ H' fun σ2 H2 => tb { D with nx := N, ct := N, bk := D.nx } σ2 H2)
def zLcE (K : PySem.W.Frag) (g : TG) (tt : TT) (te : TE) (vs : List Nat) (σ : L2.St) (as : List V) (H1 : Hp) (Q : VK) : Prop := ∃ a xs, as = [.ref a] ∧ SqL K H1 a xs ∧ ∀ D, H1 D = none → ∃ W : Nat → Nat → Hp → Prop, (∃ m, W 0 m (upd H1 D (.lst []))) ∧ ∀ i m H, W i m H →
  ((Ite K a).stop i H ∧ Q (.ref D) H) ∨ ((Ite K a).go i H ∧ ∃ Nx : Hp → Prop, (∀ H', Nx H' → ∃ m', m' < m ∧ W (i + 1) m' H') ∧ ∀ x H', (Ite K a).yld i H x H' → g x (wipe σ vs) H' fun σ2 H2 => wipe σ2 vs = wipe σ vs ∧ tt σ2 H2 fun b H3 =>
    if b = true then te σ2 H3 fun y H4 => ∃ acc, H4 D = some (.lst acc) ∧ acc.length < sizeLine ∧ Nx (upd H4 D (.lst (acc ++ [y]))) else Nx H3)
section
variable {K : PySem.W.Frag} {σ : L2.St} {H : Hp} {D : Ends} {ta : TA} {g : TG} {tb : TS} {a : Addr} {xs : List V} {tt : TT} {te : TE} {vs : List Nat} {Q : VK}
theorem z_forE (k : ta σ H fun vs H1 => zEnum K g tb D σ vs H1) : tFor (iEnum K ta) g tb D σ H := k
theorem z_lcE (k : ta σ H fun as H1 => zLcE K g tt te vs σ as H1 Q) : tLc (iEnum K ta) g tt te vs σ H Q := k
theorem z_enum {u v : Nat} (h : SqL K H a xs) (Pv : Nat → L2.St → Hp → Prop) (h0 : Pv 0 σ H) (hk : ∀ i σ' H', Pv i σ' H' → SqL K H' a xs)
    (hs : ∀ i x p σ' H', xs[i]? = some x → Pv i σ' H' → H' p = none → tb { D with nx := Pv (i + 1), ct := Pv (i + 1), bk := D.nx } ((σ'.set u (some (.int (i : Nat)))).set v (some x)) (upd H' p (.tup [.int (i : Nat), x])))
    (hd : ∀ σ' H', Pv xs.length σ' H' → D.nx σ' H') : zEnum K (gTup K 2 (gCons (gName u) (gCons (gName v) gNil))) tb D σ [.ref a] H := by
  refine ⟨a, xs, rfl, h, fun i m σ H => m = xs.length - i ∧ i ≤ xs.length ∧ Pv i σ H, ⟨_, rfl, Nat.zero_le _, h0⟩, ?_⟩
  rintro i m σ' H' ⟨rfl, hi, p⟩
  have q1 := hk i σ' H' p
  by_cases hlt : i < xs.length
  · refine .inr ⟨⟨xs, xs[i], q1, by simp [hlt]⟩, Pv (i + 1), fun σ2 H2 p' => ⟨_, by omega, rfl, by omega, p'⟩, ?_⟩
    rintro x H2 ⟨T, x1, rfl, hT, rfl, f1⟩
    exact ⟨T, [.int (i : Nat), x1], rfl, .inl (.inl upd_same), rfl, .int (i : Nat), [x1], rfl, x1, [], rfl, rfl, hs i x1 T σ' H' (f1 xs q1) p hT⟩
  · have e : i = xs.length := by omega
    subst e
    exact .inl ⟨⟨xs, q1, by omega⟩, hd σ' H' p⟩
theorem z_lce {u v : Nat} (h : SqL K H a xs) (Pv : Addr → Nat → Hp → Prop) (h0 : ∀ D, H D = none → Pv D 0 (upd H D (.lst []))) (hk : ∀ D i H', H D = none → Pv D i H' → SqL K H' a xs)
    (hs : ∀ D i x p H', H D = none → xs[i]? = some x → Pv D i H' → H' p = none → wipe (((wipe σ vs).set u (some (.int (i : Nat)))).set v (some x)) vs = wipe σ vs ∧ tt (((wipe σ vs).set u (some (.int (i : Nat)))).set v (some x)) (upd H' p (.tup [.int (i : Nat), x])) fun b H3 =>
      if b = true then te (((wipe σ vs).set u (some (.int (i : Nat)))).set v (some x)) H3 fun y H4 => ∃ acc, H4 D = some (.lst acc) ∧ acc.length < sizeLine ∧ Pv D (i + 1) (upd H4 D (.lst (acc ++ [y]))) else Pv D (i + 1) H3)
    (hd : ∀ D H', H D = none → Pv D xs.length H' → Q (.ref D) H') : zLcE K (gTup K 2 (gCons (gName u) (gCons (gName v) gNil))) tt te vs σ [.ref a] H Q := by
  refine ⟨a, xs, rfl, h, fun D hD => ⟨fun i m H => m = xs.length - i ∧ i ≤ xs.length ∧ Pv D i H, ⟨_, rfl, Nat.zero_le _, h0 D hD⟩, ?_⟩⟩
  rintro i m H' ⟨rfl, hi, p⟩
  have q1 := hk D i H' hD p
  by_cases hlt : i < xs.length
  · refine .inr ⟨⟨xs, xs[i], q1, by simp [hlt]⟩, Pv D (i + 1), fun H2 p' => ⟨_, by omega, rfl, by omega, p'⟩, ?_⟩
    rintro x H2 ⟨T, x1, rfl, hT, rfl, f1⟩
    exact ⟨T, [.int (i : Nat), x1], rfl, .inl (.inl upd_same), rfl, .int (i : Nat), [x1], rfl, x1, [], rfl, rfl, hs D i x1 T H' hD (f1 xs q1) p hT⟩
  · have e : i = xs.length := by omega
    subst e
    exact .inl ⟨⟨xs, q1, by omega⟩, hd D H' hD p⟩
end
/-! ### attributes -/
def zFld (K : PySem.W.Frag) (f : Str) (x : V) (H : Hp) (Q : VK) : Prop := ∃ a C dx fs v, x = .ref a ∧ H a = some (.ins C dx fs) ∧ Cls K C ∧ NoAttr K C f ∧ fs.lookup f = some v ∧ Q v H
def zSet (K : PySem.W.Frag) (f : Str) (y x : V) (H : Hp) (N : Hp → Prop) : Prop := ∃ a C dx fs, x = .ref a ∧ H a = some (.ins C dx fs) ∧ Cls K C ∧ NoAttr K C f ∧ fs.length < 1000 ∧ N (upd H a (.ins C dx (putF f y fs)))
theorem z_fldt {K : PySem.W.Frag} {σ : L2.St} {H : Hp} {ta : TE} {f : Str} {Q : VK} (k : ta σ H fun x H1 => zFld K f x H1 Q) : tFld K ta f σ H Q := k
theorem z_sett {K : PySem.W.Frag} {σ : L2.St} {H : Hp} {ta tv : TE} {f : Str} {D : Ends} (k : tv σ H fun y H1 => ta σ H1 fun x H2 => zSet K f y x H2 fun H3 => D.nx σ H3) : sFld K ta tv f D σ H := k
/-! ### slices -/
def uSl (K : PySem.W.Frag) : V → Option Int → Option Int → Hp → VK → Prop := fun x lo hi H Q => match x with
  | .ref a => rSlL K (.ref a) lo hi H Q ∨ rSlA K (.ref a) lo hi H Q
  | .str z => z.length ≤ sizeLine ∧ Q (.str (cutS z lo hi)) H
  | _ => False
theorem sl_uSl {X : Cx} : SlR X (uSl X.K) := by
  intro pins s σ H x v vl vu lo hi sl Q I rx hs pl pu h
  cases x <;> first | exact h.elim | skip
  · exact sl_str pins s σ H _ v vl vu lo hi sl Q I rx hs pl pu ⟨_, rfl, h.1, h.2⟩
  · exact (sl_list.or sl_tupA) pins s σ H _ v vl vu lo hi sl Q I rx hs pl pu h
section
variable {K : PySem.W.Frag} {σ : L2.St} {H : Hp} {Q : VK} {te : TE} {tl th : TO} {p : Addr} {xs : List V} {lo hi : Option Int} {QO : Option Int → Hp → Prop}
theorem z_sl {r : V → Option Int → Option Int → Hp → VK → Prop} (k : te σ H fun x H1 => tl σ H1 fun l H2 => th σ H2 fun u H3 => r x l u H3 Q) : tSl r te tl th σ H Q := k
theorem z_part (k : te σ H fun x H1 => ∃ i, x = .int i ∧ QO (some i) H1) : tPart te σ H QO := k
theorem z_noPart (k : QO none H) : tNoPart σ H QO := k
theorem z_parti {P : Int → Prop} {a : Int} (k : P a) : ∃ i, V.int a = .int i ∧ P i := ⟨a, rfl, k⟩
theorem z_slL (h : SqL K H p xs) (k : ∀ l, H l = none → Q (.ref l) (upd H l (.lst (cutV xs lo hi)))) : uSl K (.ref p) lo hi H Q := .inl ⟨p, xs, rfl, h, k⟩
theorem z_slS {x : Str} (h : x.length ≤ 100000) (k : Q (.str (cutS x lo hi)) H) : uSl K (.str x) lo hi H Q := ⟨Nat.le_trans h (by decide), k⟩
end
theorem cutV_ints (ns : List Int) (lo hi : Option Int) : cutV (ns.map V.int) lo hi = ((ns.drop (HT.sIx ns.length 0 lo)).take (HT.sIx ns.length ns.length hi - HT.sIx ns.length 0 lo)).map V.int := by
  unfold cutV; rw [List.length_map, List.map_take, List.map_drop]
theorem cutV_refs (ps : List Addr) (lo hi : Option Int) : cutV (ps.map V.ref) lo hi = ((ps.drop (HT.sIx ps.length 0 lo)).take (HT.sIx ps.length ps.length hi - HT.sIx ps.length 0 lo)).map V.ref := by
  unfold cutV; rw [List.length_map, List.map_take, List.map_drop]
theorem sIx_pos {n d : Nat} {i : Int} (h : 0 ≤ i) : HT.sIx n d (some i) = min i.toNat n := by
  show (if i < 0 then (i + (n : Int)).toNat else min i.toNat n) = _
  rw [if_neg (by omega)]
/-! ### comprehensions over zip -/
def zLcZ (K : PySem.W.Frag) (g : TG) (tt : TT) (te : TE) (vs : List Nat) (σ : L2.St) (as : List V) (H1 : Hp) (Q : VK) : Prop := ∃ a b xs ys, as = [.ref a, .ref b] ∧ ((SqL K H1 a xs ∧ SqL K H1 b ys ∧ ∀ D, H1 D = none → ∃ W : Nat → Nat → Hp → Prop, (∃ m, W 0 m (upd H1 D (.lst []))) ∧ ∀ i m H, W i m H →
  ((Itz K a b).stop i H ∧ Q (.ref D) H) ∨ ((Itz K a b).go i H ∧ ∃ Nx : Hp → Prop, (∀ H', Nx H' → ∃ m', m' < m ∧ W (i + 1) m' H') ∧ ∀ x H', (Itz K a b).yld i H x H' → g x (wipe σ vs) H' fun σ2 H2 => wipe σ2 vs = wipe σ vs ∧ tt σ2 H2 fun b H3 =>
    if b = true then te σ2 H3 fun y H4 => ∃ acc, H4 D = some (.lst acc) ∧ acc.length < sizeLine ∧ Nx (upd H4 D (.lst (acc ++ [y]))) else Nx H3)) ∨
  (SqT K H1 a xs ∧ SqT K H1 b ys ∧ ∀ D, H1 D = none → ∃ W : Nat → Nat → Hp → Prop, (∃ m, W 0 m (upd H1 D (.lst []))) ∧ ∀ i m H, W i m H →
  ((RZ.ItzT K a b).stop i H ∧ Q (.ref D) H) ∨ ((RZ.ItzT K a b).go i H ∧ ∃ Nx : Hp → Prop, (∀ H', Nx H' → ∃ m', m' < m ∧ W (i + 1) m' H') ∧ ∀ x H', (RZ.ItzT K a b).yld i H x H' → g x (wipe σ vs) H' fun σ2 H2 => wipe σ2 vs = wipe σ vs ∧ tt σ2 H2 fun b H3 =>
    if b = true then te σ2 H3 fun y H4 => ∃ acc, H4 D = some (.lst acc) ∧ acc.length < sizeLine ∧ Nx (upd H4 D (.lst (acc ++ [y]))) else Nx H3)))
section
variable {K : PySem.W.Frag} {σ : L2.St} {H : Hp} {ta : TA} {g : TG} {a b : Addr} {xs ys : List V} {tt : TT} {te : TE} {vs : List Nat} {Q : VK}
theorem z_lcZ (k : ta σ H fun as H1 => zLcZ K g tt te vs σ as H1 Q) : tLc (RZ.iZipA K ta) g tt te vs σ H Q := k
theorem z_lcz {u v : Nat} (h : (SqL K H a xs ∧ SqL K H b ys) ∨ (SqT K H a xs ∧ SqT K H b ys)) (Pv : Addr → Nat → Hp → Prop) (h0 : ∀ D, H D = none → Pv D 0 (upd H D (.lst []))) (hk : ∀ D i H', H D = none → Pv D i H' → Same H H')
    (hs : ∀ D i x y p H', H D = none → xs[i]? = some x → ys[i]? = some y → Pv D i H' → H' p = none → wipe (((wipe σ vs).set u (some x)).set v (some y)) vs = wipe σ vs ∧ tt (((wipe σ vs).set u (some x)).set v (some y)) (upd H' p (.tup [x, y])) fun b H3 =>
      if b = true then te (((wipe σ vs).set u (some x)).set v (some y)) H3 fun z H4 => ∃ acc, H4 D = some (.lst acc) ∧ acc.length < sizeLine ∧ Pv D (i + 1) (upd H4 D (.lst (acc ++ [z]))) else Pv D (i + 1) H3)
    (hd : ∀ D H', H D = none → Pv D (min xs.length ys.length) H' → Q (.ref D) H') : zLcZ K (gTup K 2 (gCons (gName u) (gCons (gName v) gNil))) tt te vs σ [.ref a, .ref b] H Q := by
  refine ⟨a, b, xs, ys, rfl, ?_⟩
  rcases h with ⟨h1, h2⟩ | ⟨h1, h2⟩
  · refine .inl ⟨h1, h2, fun D hD => ⟨fun i m H => m = min xs.length ys.length - i ∧ i ≤ min xs.length ys.length ∧ Pv D i H, ⟨_, rfl, Nat.zero_le _, h0 D hD⟩, ?_⟩⟩
    rintro i m H' ⟨rfl, hi, p⟩
    have s := hk D i H' hD p
    have q1 := Same.seq s h1
    have q2 := Same.seq s h2
    by_cases hlt : i < min xs.length ys.length
    · have l1 : i < xs.length := by omega
      have l2 : i < ys.length := by omega
      refine .inr ⟨⟨xs, ys, xs[i], ys[i], q1, q2, by simp [l1], by simp [l2]⟩, Pv D (i + 1), fun H2 p' => ⟨_, by omega, rfl, by omega, p'⟩, ?_⟩
      rintro x H2 ⟨T, x1, y1, rfl, hT, rfl, f1, f2⟩
      exact ⟨T, [x1, y1], rfl, .inl (.inl upd_same), rfl, x1, [y1], rfl, y1, [], rfl, rfl, hs D i x1 y1 T H' hD (f1 xs q1) (f2 ys q2) p hT⟩
    · have e : i = min xs.length ys.length := by omega
      subst e
      exact .inl ⟨⟨xs, ys, q1, q2, by omega⟩, hd D H' hD p⟩
  · refine .inr ⟨h1, h2, fun D hD => ⟨fun i m H => m = min xs.length ys.length - i ∧ i ≤ min xs.length ys.length ∧ Pv D i H, ⟨_, rfl, Nat.zero_le _, h0 D hD⟩, ?_⟩⟩
    rintro i m H' ⟨rfl, hi, p⟩
    have s := hk D i H' hD p
    have q1 := Same.sqT s h1
    have q2 := Same.sqT s h2
    by_cases hlt : i < min xs.length ys.length
    · have l1 : i < xs.length := by omega
      have l2 : i < ys.length := by omega
      refine .inr ⟨⟨xs, ys, xs[i], ys[i], q1, q2, by simp [l1], by simp [l2]⟩, Pv D (i + 1), fun H2 p' => ⟨_, by omega, rfl, by omega, p'⟩, ?_⟩
      rintro x H2 ⟨T, x1, y1, rfl, hT, rfl, f1, f2⟩
      exact ⟨T, [x1, y1], rfl, .inl (.inl upd_same), rfl, x1, [y1], rfl, y1, [], rfl, rfl, hs D i x1 y1 T H' hD (f1 xs q1) (f2 ys q2) p hT⟩
    · have e : i = min xs.length ys.length := by omega
      subst e
      exact .inl ⟨⟨xs, ys, q1, q2, by omega⟩, hd D H' hD p⟩
end
/-! ### constants of the module -/
theorem z_gint {X : Cx} {x : Str} {i : Int} {pos : Pos} (hm : ∃ t, X.mg x = some (.int i t)) (hg : Gl X x) (hd : (x == ("__debug__" : Str)) = false := by decide) : PE X (.Name x pos) (tC (.int i)) := by
  obtain ⟨t, hm⟩ := hm
  exact pe_glob hg hm ⟨t, rfl⟩ hd
theorem z_gstr {X : Cx} {x y : Str} {pos : Pos} (hm : ∃ t, X.mg x = some (.str y t)) (hg : Gl X x) (hd : (x == ("__debug__" : Str)) = false := by decide) : PE X (.Name x pos) (tC (.str y)) := by
  obtain ⟨t, hm⟩ := hm
  exact pe_glob hg hm ⟨t, rfl⟩ hd

local macro_rules | `(tactic| walk_at "ne") => `(tactic| with_reducible first | assumption | exact Ne.symm (by assumption) | exact ne_n (by assumption) (by assumption) | exact Ne.symm (ne_n (by assumption) (by assumption)))
local macro_rules | `(tactic| walk_at "df") => `(tactic| (intro zz; cases zz; done))
local macro_rules | `(tactic| walk_at "ns") => `(tactic| first | exact NotSt.ints | exact NotSt.refs | exact NotSt.strs | (intro _ _ _ zz; cases zz; done))
local macro_rules | `(tactic| walk_at "lk") => `(tactic| with_reducible first | assumption | ((show upd _ _ _ _ = _); first | exact upd_same | exact lk_new (by assumption) (by walk_at "lk") | ((fail_if_success refine lk_new (by assumption) ?_); first | exact lk_ne (by walk_at "ne") (by walk_at "lk") | exact lk_df (by walk_at "lk") (by walk_at "lk") (by with_unfolding_all walk_at "df"))) | exact ExD.lk (by assumption) (by walk_at "lk") (by with_unfolding_all walk_at "ns") | exact Same.lk (by assumption) (by walk_at "lk"))
local macro_rules | `(tactic| walk_at "sqL") => `(tactic| with_reducible first | assumption | exact SqL.of (by walk_at "lk") | ((show SqL _ (upd _ _ _) _ _); first | exact sqL_new (by assumption) (by walk_at "sqL") | exact sqL_ne (by walk_at "ne") (by walk_at "sqL")) | exact Same.seq (by assumption) (by walk_at "sqL"))
local macro_rules | `(tactic| walk_at "sqT") => `(tactic| with_reducible first | assumption | exact SqT.of (by walk_at "lk") | ((show SqT _ (upd _ _ _) _ _); first | exact sqT_new (by assumption) (by walk_at "sqT") | exact sqT_ne (by walk_at "ne") (by walk_at "sqT")))
local macro_rules | `(tactic| walk_at "sq") => `(tactic| first | exact Or.inl (by walk_at "sqL") | exact Or.inr (by walk_at "sqT"))
local macro_rules | `(tactic| walk_at "mulok") => `(tactic| first | exact mul1 (by omega) | exact mul2 (by omega))
local macro_rules | `(tactic| walk_at "few") => `(tactic| (simp only [List.length_cons, List.length_nil]; with_unfolding_all decide))
local macro_rules | `(tactic| walk_at "zo") => `(tactic| (with_reducible first
  | refine z_add ?_ | refine z_sub ?_ | refine z_lt ?_ | refine z_le ?_ | refine z_gt ?_ | refine z_ge ?_ | refine z_eq ?_ | refine z_ne ?_ | refine z_neg ?_ | refine z_int ?_ | refine z_max ?_ | refine z_min ?_ | refine z_abs ?_
  | refine z_eqS ?_ | refine z_neS ?_ | refine z_eqIS ?_ | refine z_eqSI ?_ | refine z_neIS ?_ | refine z_neSI ?_ | refine z_eqB ?_ | refine z_neB ?_ | refine z_eqN ?_ | refine z_neN ?_ | refine z_is ?_ | refine z_isNot ?_ | refine z_isB ?_ | refine z_isNotB ?_ | refine z_isbb ?_ | refine z_isbi ?_
  | refine z_ltS ?_ | refine z_leS ?_ | refine z_gtS ?_ | refine z_geS ?_ | refine z_isii ?_ | refine z_isib ?_))
local macro_rules | `(tactic| walk_at "zp") => `(tactic| with_reducible first
  | ((show uMul _ _ _ _); refine z_mul (by walk_at "mulok") ?_)
  | ((show uDiv _ _ _ _); refine z_div (by exact div1 (by omega)) ?_)
  | ((show uMod _ _ _ _); refine z_mod (by omega) ?_)
  | ((show uPow _ _ _ _); refine z_pow (by with_unfolding_all exact ⟨by decide, by decide, by decide⟩) ?_; (simp only [Int.reduceToNat, Int.reducePow]))
  | ((show uIx _ _ _ _ _); refine z_ix (by walk_at "sq") (by first | with_unfolding_all rfl | assumption) ?_)
  | ((show uLen _ _ _ _); refine z_len (by walk_at "sq") ?_)
  | ((show uList _ _ _ _); refine z_list (by walk_at "sq") ?_; intro _ _)
  | ((show uSl _ (V.ref _) _ _ _ _); refine z_slL (by walk_at "sqL") ?_; intro _ _)
  | ((show rSetL _ _ _ _ _); refine z_setL (by walk_at "lk") (by with_unfolding_all rfl) ?_)
  | ((show tyV _ "list" _ _ ∧ _); refine ⟨tyL (by walk_at "lk"), ?_⟩)
  | ((show uIsi _ [_, V.ty "list"] _ _); refine z_isll (by walk_at "lk") ?_)
  | ((show uIsi _ [_, V.ty "tuple"] _ _); refine z_istt (by walk_at "lk") ?_)
  | ((show zNewL _ _ _); refine z_newL (by walk_at "few") ?_; intro _ _)
  | ((show zNewT _ _ _); refine z_newT (by walk_at "few") ?_; intro _ _))
local macro_rules | `(tactic| walk_at "ze") => `(tactic| (with_reducible first
  | ((show tVar _ _ _ _); refine z_var (by with_unfolding_all rfl) ?_) | refine z_c ?_ | refine z_op ?_ | refine z_cons ?_ | refine z_nil ?_ | refine z_cal ?_ | refine z_cb ?_ | refine z_test ?_ | refine z_bl ?_ | refine z_un ?_
  | refine z_tru ?_ | refine z_trub ?_ | refine z_trui ?_ | refine z_and ?_ | refine z_or ?_ | refine z_not ?_ | refine z_andV ?_ | refine z_orV ?_ | refine z_notV ?_ | refine z_bl1 ?_ | refine z_if ?_ | refine z_lst ?_ | refine z_tup ?_ | refine z_chain ?_))
local macro_rules | `(tactic| walk_at "zs") => `(tactic| (with_reducible first
  | refine z_seq ?_ | refine z_asg ?_ | refine z_ifS ?_ | refine z_ret ?_ | refine z_drop ?_ | refine z_next ?_ | refine z_brk ?_ | refine z_cont ?_ | refine z_retN ?_ | refine z_iteT ?_ | refine z_iteF ?_ | refine z_for1 ?_ | refine z_for2 ?_ | refine z_asgS ?_ | refine z_bm ?_ | refine z_forSq ?_ | refine z_forZ ?_ | refine z_forE ?_ | refine z_lcE ?_ | refine z_lcZ ?_ | refine z_fldt ?_ | refine z_sett ?_ | refine z_lcSq ?_ | refine z_lc1 ?_ | refine z_yes ?_ | refine z_gName ?_ | refine z_sl ?_ | refine z_part ?_ | refine z_noPart ?_ | refine z_parti ?_))
local macro_rules | `(tactic| walk_at "z") => `(tactic| first | walk_at "ze" | walk_at "zo" | walk_at "zs" | walk_at "zp" | (dsimp only [List.set]))
local macro_rules | `(tactic| walk_at "zz") => `(tactic| repeat (walk_at "z"))
local macro_rules | `(tactic| walk_at "zd") => `(tactic| ((with_reducible show ite _ _ _); first | refine z_iteT' (by decide +kernel) ?_ | refine z_iteF' (by decide +kernel) ?_))
local macro_rules | `(tactic| walk_at "zx") => `(tactic| repeat (first | walk_at "z" | walk_at "zd"))

/-! ### the draws of a law -/
-- _law_row(_law_script, _law_k): slots 0:_law_script 1:_law_k 2:_law_cell 3:_law_a 4:_law_b 5:_law_c
def T_law_row (K : PySem.W.Frag) : TS :=
    (tSeq (tAsg (tC (.int 0)) (gName 2))
    (tCut (tIfS (tTest (tOp (uLt K) (tVar 1) (tCB (uLen K) (tCons (tVar 0) tNil)))) (tAsg (tOp (uIx K) (tVar 0) (tVar 1)) (gName 2)) tNext)
    (tCut (tIfS (tTest (tOp (uLt K) (tVar 2) (tC (.int 0)))) (tAsg (tOp uSub (tOp uMul (tUn uNeg (tC (.int 2))) (tVar 2)) (tC (.int 1))) (gName 2)) tNext)
    (tCut (tIfS (tTest (tOp (uLt K) (tVar 2) (tOp uPow (tC (.int 10)) (tC (.int 9))))) (tSeq (tAsg (tOp uMod (tCB uInt (tCons (tOp (uAdd K) (tOp (uAdd K) (tOp uMul (tVar 2) (tC (.int 48271))) (tOp uMul (tVar 1) (tC (.int 69621)))) (tC (.int 11))) tNil)) (tC (.int 2147483647))) (gName 3))
    (tSeq (tAsg (tOp uMod (tCB uInt (tCons (tOp (uAdd K) (tOp (uAdd K) (tOp (uAdd K) (tOp uMul (tVar 3) (tC (.int 16807))) (tOp uMul (tVar 2) (tC (.int 7)))) (tVar 1)) (tC (.int 5))) tNil)) (tC (.int 2147483629))) (gName 4))
    (tSeq (tAsg (tOp uMod (tCB uInt (tCons (tOp (uAdd K) (tOp (uAdd K) (tOp uMul (tVar 4) (tC (.int 39373))) (tOp uMul (tVar 3) (tVar 4))) (tC (.int 3))) tNil)) (tC (.int 2147483587))) (gName 5))
    (tAsg (tOp (uAdd K) (tOp (uAdd K) (tVar 3) (tOp uMul (tVar 4) (tC (.int 2147483647)))) (tOp uMul (tVar 5) (tOp uPow (tC (.int 2147483647)) (tC (.int 2))))) (gName 2))))) tNext)
    (tRet (tVar 2))))))
def sp_law_row (K : PySem.W.Frag) : Sp := fun vs H Q _ => ∃ (L : Addr) (ns : List Int) (k : Int), vs = [.ref L, .int k] ∧ SqL K H L (ns.map V.int) ∧ 0 ≤ k ∧ ∀ c : Int, 0 ≤ c → Q (.int c) H
theorem r_law_row {K : PySem.W.Frag} {L : Addr} {ns : List Int} {k : Int} {H : Hp} {D : Ends} (hL : SqL K H L (ns.map V.int)) (hk : 0 ≤ k) (q : ∀ c : Int, 0 ≤ c → D.rt (.int c) H) :
    T_law_row K D [some (.ref L), some (.int k), none, none, none, none] H := by
  unfold T_law_row
  walk_at "zz"
  refine z_cut (fun σ H' => H = H' ∧ ∃ c : Int, σ = [some (.ref L), some (.int k), some (.int c), none, none, none]) ?_ ?_
  · walk_at "zz"
    refine z_itD (fun c => ?_) (fun c => ?_)
    · walk_at "zz"
      refine z_ix (.inl hL) (at_int hk (by simpa using c)) ?_
      walk_at "zz"
      exact ⟨rfl, _, rfl⟩
    · walk_at "zz"
      exact ⟨rfl, _, rfl⟩
  rintro σ H' ⟨rfl, c, rfl⟩
  refine z_cut (fun σ H' => H = H' ∧ ∃ c : Int, 0 ≤ c ∧ σ = [some (.ref L), some (.int k), some (.int c), none, none, none]) ?_ ?_
  · walk_at "zz"
    refine z_itD (fun c => ?_) (fun c => ?_)
    · walk_at "zz"
      exact ⟨rfl, _, by omega, rfl⟩
    · walk_at "zz"
      exact ⟨rfl, _, by omega, rfl⟩
  rintro σ H' ⟨rfl, c, hc, rfl⟩
  refine z_cut (fun σ H' => H = H' ∧ ∃ (c : Int) (x y z : Option V), 0 ≤ c ∧ σ = [some (.ref L), some (.int k), some (.int c), x, y, z]) ?_ ?_
  · walk_at "zz"
    refine z_itD (fun h => ?_) (fun h => ?_)
    · walk_at "zz"
      refine ⟨rfl, _, _, _, _, ?_, rfl⟩
      omega
    · walk_at "zz"
      exact ⟨rfl, _, _, _, _, hc, rfl⟩
  rintro σ H' ⟨rfl, c, x, y, z, hc, rfl⟩
  walk_at "zz"
  exact q c hc
-- _law_next(_law_state, _law_many): slots 0:_law_state 1:_law_many 2:_law_drawn
def T_law_next (K : PySem.W.Frag) : TS :=
    (tCut (tIfS (tTest (tOp (uLt K) (tOp (uIx K) (tVar 0) (tC (.int 2))) (tVar 1))) (tSeq (tAsg (tCal (sp_law_row K) (tCons (tOp (uIx K) (tVar 0) (tC (.int 0))) (tCons (tOp (uIx K) (tVar 0) (tC (.int 1))) tNil))) (gSub (tVar 0) (tC (.int 2)) rSetL))
    (tAsg (tOp (uAdd K) (tOp (uIx K) (tVar 0) (tC (.int 1))) (tC (.int 1))) (gSub (tVar 0) (tC (.int 1)) rSetL))) tNext)
    (tSeq (tAsg (tOp uMod (tCB uInt (tCons (tOp (uIx K) (tVar 0) (tC (.int 2))) tNil)) (tVar 1)) (gName 2))
    (tSeq (tAsg (tOp uDiv (tOp (uIx K) (tVar 0) (tC (.int 2))) (tVar 1)) (gSub (tVar 0) (tC (.int 2)) rSetL))
    (tRet (tVar 2)))))
/-- the state of the draws stands at st, the script's copy at L -/
structure Draw (H : Hp) (st L : Addr) : Prop where
  ex : ∃ (ns : List Int) (k a : Int), H st = some (.lst [.ref L, .int k, .int a]) ∧ H L = some (.lst (ns.map V.int)) ∧ L ≠ st ∧ 0 ≤ k ∧ 0 ≤ a
theorem Draw.ne {H : Hp} {st L p : Addr} (h : H p = none) (d : Draw H st L) : p ≠ st := by
  obtain ⟨_, _, _, e, _⟩ := d.ex
  exact (ne_of_none e h).symm
theorem Draw.neL {H : Hp} {st L p : Addr} (h : H p = none) (d : Draw H st L) : p ≠ L := by
  obtain ⟨_, _, _, _, e, _⟩ := d.ex
  exact (ne_of_none e h).symm
theorem Draw.new {H : Hp} {st L p : Addr} {o : HO} (h : H p = none) (d : Draw H st L) : Draw (upd H p o) st L := by
  obtain ⟨ns, k, a, e, s, n, hk, ha⟩ := d.ex
  exact ⟨ns, k, a, lk_ne (ne_of_none e h) e, lk_ne (ne_of_none s h) s, n, hk, ha⟩
theorem Draw.same {H H' : Hp} {st L : Addr} (x : Same H H') (d : Draw H st L) : Draw H' st L := by
  obtain ⟨ns, k, a, e, s, n, hk, ha⟩ := d.ex
  exact ⟨ns, k, a, x _ _ e, x _ _ s, n, hk, ha⟩
theorem Draw.put {H : Hp} {st L p : Addr} {o : HO} (h1 : p ≠ st) (h2 : p ≠ L) (d : Draw H st L) : Draw (upd H p o) st L := by
  obtain ⟨ns, k, a, e, s, n, hk, ha⟩ := d.ex
  exact ⟨ns, k, a, lk_ne h1.symm e, lk_ne h2.symm s, n, hk, ha⟩
theorem Draw.back {H H' : Hp} {st L p : Addr} (d : Draw H' st L) (x : ExD H H') (h : H' p = none) (hs : ∀ L k a, H p = some (.lst [.ref L, .int k, .int a]) → p = st) : H p = none := by
  cases e : H p with
  | none => rfl
  | some o =>
    by_cases n : NotSt o
    · have := x p o n e
      rw [h] at this; cases this
    · exfalso
      apply n
      rintro L k a rfl
      exact Draw.ne h d (hs L k a e)
def sp_law_next (K : PySem.W.Frag) : Sp := fun vs H Q _ => ∃ (st L : Addr) (m : Int), vs = [.ref st, .int m] ∧ Draw H st L ∧ 0 < m ∧ m < 1000000000000000000 ∧ ∀ (r : Int) (H' : Hp), 0 ≤ r → r < m → Draw H' st L → ExD H H' → Q (.int r) H'
theorem law_row_c {K : PySem.W.Frag} {L : Addr} {k : Int} {H : Hp} {Q : VK} {E : XK} {ns : List Int} (hL : SqL K H L (ns.map V.int)) (hk : 0 ≤ k) (q : ∀ c : Int, 0 ≤ c → Q (.int c) H) : sp_law_row K [.ref L, .int k] H Q E := ⟨L, ns, k, rfl, hL, hk, q⟩
theorem r_law_next {K : PySem.W.Frag} {st L : Addr} {m : Int} {H : Hp} {D : Ends} (d : Draw H st L) (h0 : 0 < m) (h1 : m < 1000000000000000000) (q : ∀ (r : Int) (H' : Hp), 0 ≤ r → r < m → Draw H' st L → ExD H H' → D.rt (.int r) H') :
    T_law_next K D [some (.ref st), some (.int m), none] H := by
  obtain ⟨ns, k, a, e, sL, n, hk, ha⟩ := d.ex
  have s : SqL K H L (ns.map V.int) := SqL.of sL
  unfold T_law_next
  refine z_cut (fun σ H' => ∃ k a : Int, H' = upd H st (.lst [.ref L, .int k, .int a]) ∧ 0 ≤ k ∧ 0 ≤ a ∧ σ = [some (.ref st), some (.int m), none]) ?_ ?_
  · walk_at "zz"
    refine z_itD (fun h => ?_) (fun h => ?_)
    · walk_at "zz"
      refine law_row_c s hk fun c hc => ?_
      walk_at "zz"
      refine ⟨k + 1, c, ?_, by omega, hc, rfl⟩
      simp only [upd_upd]; rfl
    · walk_at "zz"
      exact ⟨k, a, (upd_self e).symm, hk, ha, rfl⟩
  rintro σ H' ⟨k, a, rfl, hk, ha, rfl⟩
  walk_at "zz"
  refine q _ _ (Int.emod_nonneg _ (by omega)) (Int.emod_lt_of_pos _ h0) ⟨ns, k, a / m, upd_same, ?_, n, hk, Int.ediv_nonneg ha (by omega)⟩ ?_
  · exact lk_ne n (lk_ne n sL)
  · exact ExD.st e (ExD.st e (ExD.refl H))
theorem law_next_c {K : PySem.W.Frag} {st L : Addr} {m : Int} {H : Hp} {Q : VK} {E : XK} (d : Draw H st L) (h0 : 0 < m) (h1 : m < 1000000000000000000) (q : ∀ (r : Int) (H' : Hp), 0 ≤ r → r < m → Draw H' st L → ExD H H' → Q (.int r) H') : sp_law_next K [.ref st, .int m] H Q E :=
  ⟨st, L, m, rfl, d, h0, h1, q⟩
-- _law_is_integer(_law_actual): slots 0:_law_actual
def T_law_is_integer (K : PySem.W.Frag) : TS :=
    (tRet (tAndV (tCB (uIsi K) (tCons (tVar 0) (tCons (tC (.ty "int")) tNil))) (tNotV (tCB (uIsi K) (tCons (tVar 0) (tCons (tC (.ty "bool")) tNil))))))
def sp_law_is_integer (K : PySem.W.Frag) : Sp := fun vs H Q _ => ∃ i : Int, vs = [.int i] ∧ Q (.bl true) H
theorem r_law_is_integer {K : PySem.W.Frag} {i : Int} {H : Hp} {D : Ends} (q : D.rt (.bl true) H) : T_law_is_integer K D [some (.int i)] H := by
  unfold T_law_is_integer
  walk_at "zz"
  exact q
theorem Draw.start {H : Hp} {l p : Addr} {ns : List Int} (h1 : H l = none) (h2 : upd H l (.lst (ns.map V.int)) p = none) : Draw (upd (upd H l (.lst (ns.map V.int))) p (.lst [.ref l, .int 0, .int 0])) p l := by
  have ne : l ≠ p := ne_of_none (H := upd H l (.lst (ns.map V.int))) upd_same h2
  exact ⟨ns, 0, 0, upd_same, lk_ne ne upd_same, ne, by decide, by decide⟩
def sp_law (K : PySem.W.Frag) : Sp := fun vs H Q _ => ∃ (a : Addr) (ns : List Int), vs = [.ref a] ∧ SqL K H a (ns.map V.int) ∧ ns.length ≤ 63 ∧ ∀ H', Q (.bl true) H'
abbrev N_law_row : List Str := ["_law_script", "_law_k", "_law_cell", "_law_a", "_law_b", "_law_c"]
theorem w_law_row {K : PySem.W.Frag} : Wd (T_law_row K) N_law_row 2 (sp_law_row K) := fun vs H Q E h => by
  obtain ⟨L, ns, k, rfl, h1, h2, q⟩ := h
  exact ⟨rfl, r_law_row h1 h2 q⟩
abbrev N_law_next : List Str := ["_law_state", "_law_many", "_law_drawn"]
theorem w_law_next {K : PySem.W.Frag} : Wd (T_law_next K) N_law_next 2 (sp_law_next K) := fun vs H Q E h => by
  obtain ⟨st, L, m, rfl, d, h0, h1, q⟩ := h
  exact ⟨rfl, r_law_next d h0 h1 q⟩
abbrev N_law_is_integer : List Str := ["_law_actual"]
theorem w_law_is_integer {K : PySem.W.Frag} : Wd (T_law_is_integer K) N_law_is_integer 1 (sp_law_is_integer K) := fun vs H Q E h => by
  obtain ⟨i, rfl, q⟩ := h
  exact ⟨rfl, r_law_is_integer q⟩

local macro_rules | `(tactic| walk_at "dr") => `(tactic| with_reducible first | assumption | ((show Draw (upd _ _ _) _ _); first | exact Draw.new (by assumption) (by walk_at "dr") | exact Draw.put (by walk_at "ne") (by walk_at "ne") (by walk_at "dr")) | exact Draw.same (by assumption) (by walk_at "dr"))
local macro_rules | `(tactic| walk_at "nx") => `(tactic| (refine law_next_c (by walk_at "dr") (by first | decide | omega) (by first | decide | omega) ?_))

/-! enumerate over a list or a tuple -/
section
open PySem.AutoSeq1 (wpAny_loadPart')
abbrev itT (l : Addr) : Obj := { cls := .type "tuple_iterator", data := .fields #[.ref l, .int 0 0] }
abbrev enT (h : Heap) : Obj := { cls := .type "enumerate", data := .fields #[.none, .bool false, .ref h.objs.size, rawInt 0, .none, .none] }
theorem new_enumT (l : Addr) (us : Array Value) (n : Nat) (dd : Option Addr) (ss : Array (Option Value)) :
    Meets (Builtin.«enumerate.__new__» ⟨[.type "enumerate", .ref l], []⟩) (fun _ R s => s.heap.get? l = some { cls := .type "tuple", dict := dd, data := .seq us n, slots := ss } ∧
      R (.ok (.ret (.ref (s.heap.push (itT l)).objs.size))) { s with heap := (s.heap.push (itT l)).push (enT s.heap) }) :=
  .of_wp fun prog w A R s h => by
    obtain ⟨hp, gg, dr, tk, os⟩ := s
    obtain ⟨hl, q⟩ := h
    have se := sub_enumerate
    have isT : Heap.IsTuple (Shared.heap ⟨hp, gg, dr, tk, os⟩) l us := ⟨_, hl, rfl, n, rfl⟩
    wp_walk using wpAny_loadPart' hl
    refine wpAny_stack_any fun st => wpAny_pure ?_
    split
    · rename_i cc _ _ _ _ _
      cases (cc == Value.type "enumerate") <;> (wp_walk using wpAny_loadPart' hl, wpAny_pyIter_tuple isT; exact ⟨_, rfl, q⟩)
    · wp_walk using wpAny_loadPart' hl, wpAny_pyIter_tuple isT
      exact ⟨_, rfl, q⟩
theorem call_enumT {prog : Program} {w : World} {A : Around} {E : Value → Shared → Prop} {s : Shared} {l : Addr} {us : Array Value} {Q : Value → Shared → Prop} (hT : s.heap.IsTuple l us)
    (h : ∀ h', IsEnum h' (s.heap.objs.size + 1) s.heap.objs.size 0 .none → h'.IsTupleIter s.heap.objs.size l 0 → (∀ b o, s.heap.get? b = some o → h'.get? b = some o) → Q (.ref (s.heap.objs.size + 1)) { s with heap := h' }) :
    wpAny (model prog w) A (call (.type "enumerate") [.ref l]) Q E s := by
  obtain ⟨⟨cc, dd, dt, ss⟩, hl, h1, n, h2⟩ := hT
  simp only at h1 h2
  subst h1 h2
  have zz : (s.heap.push (itT l)).objs.size = s.heap.objs.size + 1 := Heap.size_push ..
  have en : IsEnum ((s.heap.push (itT l)).push (enT s.heap)) (s.heap.objs.size + 1) s.heap.objs.size 0 .none := by
    have g := Heap.get?_push_size (s.heap.push (itT l)) (o := enT s.heap) rfl
    rw [zz] at g; exact g
  refine callType_new F.called_enumerate (by decide) (F.typeCall_enumerate_1 _) (F.newCall_enumerate_1 _) (fun obj => F.args_object_init_2 obj _) F.entry_enumerate_new (new_enumT l us n dd ss) ⟨hl, ?_⟩
  show _ ∧ _
  rw [zz]
  exact ⟨⟨_, en, rfl⟩, h _ en ⟨_, Heap.get?_push_of_some _ (Heap.get?_push_size _ rfl), rfl, rfl⟩ fun b o x => Heap.get?_push_of_some _ (Heap.get?_push_of_some _ x)⟩
end
/-- the tuple at a as it stands at each turn, place and item in a new pair -/
def IteT (K : PySem.W.Frag) (a : Addr) : It :=
  ⟨fun i H => ∃ (xs : List V) (x : V), SqT K H a xs ∧ xs[i]? = some x, fun i H v H' => ∃ T x, v = .ref T ∧ H T = none ∧ H' = upd H T (.tup [.int (i : Nat), x]) ∧ ∀ xs, SqT K H a xs → xs[i]? = some x, fun i H => ∃ xs : List V, SqT K H a xs ∧ xs.length ≤ i⟩
theorem turn_enumT {P : Program} {w : World} {K : PySem.W.Frag} {elts : List Expr} {kk : Nat} {tpos : Pos} (a e it : Addr) :
    Turn P w K (.Tuple elts kk tpos) (IteT K a) [e, it] e (fun i h => (∃ old, IsEnum h e it ((i : Nat) : Int) old) ∧ h.IsTupleIter it a i ∧ e ≠ it) where
  mem := by simp
  obj := fun i h st b hb => by
    obtain ⟨⟨old, en⟩, ⟨o, ho, _, dt⟩, _⟩ := st
    rcases (show b = e ∨ b = it by simpa using hb) with z | z
    · rw [z]; exact ⟨_, en, fun v q => nomatch q⟩
    · rw [z]; exact ⟨o, ho, fun v q => by rw [dt] at q; cases q⟩
  keep := fun i h h' st k => let ⟨⟨old, en⟩, ⟨o, ho, hi⟩, ne⟩ := st; ⟨⟨old, k e (by simp) _ en⟩, ⟨o, k it (by simp) _ ho, hi⟩, ne⟩
  item := by
    intro X hP hw hK hc i pins s σ H E I hf st hg
    subst hP hw hK
    obtain ⟨⟨old, en⟩, hit, ne⟩ := st
    obtain ⟨xs, x, hq, hx⟩ := hg
    obtain ⟨us, rv, p, _⟩ := I.tuple hq
    obtain ⟨u, hu, ru⟩ := rv.get hx
    have p2 : s.heap.IsTuple a us.toArray := p
    have lt1 : e < s.heap.objs.size := Heap.lt_size en
    have lt2 : it < s.heap.objs.size := by obtain ⟨_, q, _⟩ := hit; exact Heap.lt_size q
    have ne2 : a ≠ it := fun z => by
      obtain ⟨o1, g1, c1, _⟩ := hit
      obtain ⟨o2, g2, c2, _⟩ := id p2
      rw [z, g1] at g2; cases g2; rw [c1] at c2; exact absurd c2 (by decide)
    have ne3 : e ≠ a := fun z => by
      obtain ⟨o2, g2, c2, _⟩ := id p2
      rw [← z, show s.heap.get? e = _ from en] at g2; cases g2; exact absurd (show Value.type "enumerate" = Value.type "tuple" from c2) (by decide)
    have hlt : i < us.toArray.size := by
      obtain ⟨l, _⟩ := List.getElem?_eq_some_iff.mp hu
      simpa using l
    refine wpAny_pyNext_enum_itemD (Draws.tuple (A := X.A.in1) (I.ok.hd hc) it a ne2 us.toArray) en ⟨hit, p2⟩ hlt ne (by simp [ne, ne3]) fun y h' tk hy out st2 hT _ hk => ?_
    have ey : y = u := by
      have z : us.toArray[i]? = some y := hy
      rw [show us.toArray[i]? = us[i]? by simp] at z
      rw [hu] at z; exact (Option.some.inj z).symm
    subst ey
    refine ⟨_, rfl, wpAny_letOwnedTupleGo_enum (s := { s with heap := h', toks := tk + 1 }) out fun h'' en2 sb => ?_⟩
    have hT2 : h''.get? s.heap.objs.size = some { cls := .type "tuple", data := .seq #[.int i tk, y] } := (sb.2 _ (Nat.ne_of_gt lt1)).trans hT
    have nw : ObjOk X.prog X.w (upd H s.heap.objs.size (.tup [.int (i : Nat), x])) h'' s.heap.objs.size (.tup [.int (i : Nat), x]) :=
      ⟨by show 2 ≤ sizeLine; decide, [.int i tk, y], .cons ⟨_, rfl⟩ (.cons ru .nil), ⟨_, hT2, rfl, _, rfl⟩⟩
    have J : Inv X pins σ (upd H s.heap.objs.size (.tup [.int (i : Nat), x])) { s with heap := h'', toks := tk + 1 } :=
      I.turnedNew (ch := [e, it]) (fun b ob hb q => (sb.2 b (fun z => hb (by simp [z]))).trans (hk b ob (fun z => hb (by simp [z])) (fun z => hb (by simp [z])) q)) hf (Nat.le_refl _) nw
    have hit2 : h''.IsTupleIter it a (i + 1) := by
      obtain ⟨o, g, r⟩ := st2.1
      exact ⟨o, (sb.2 it (Ne.symm ne)).trans g, r⟩
    refine ⟨.ref s.heap.objs.size, _, J, rfl, ⟨_, x, rfl, I.hok.fresh (Nat.le_refl _), rfl, fun ys hy => by rw [I.tuple_inj hy hq]; exact hx⟩, ⟨⟨y, ?_⟩, hit2, ne⟩, fun b hb => ?_⟩
    · rw [show ((i + 1 : Nat) : Int) = (i : Int) + 1 by omega]; exact en2
    · have lt : b < s.heap.objs.size := by
        rcases (show b = e ∨ b = it by simpa using hb) with z | z
        · rw [z]; exact lt1
        · rw [z]; exact lt2
      rw [upd_ne (Nat.ne_of_lt lt)]
      exact (hf b hb).1
  done := by
    intro X hP hw hK hc i pins s σ H E I hf st hg
    subst hP hw hK
    obtain ⟨⟨old, en⟩, hit, ne⟩ := st
    obtain ⟨xs, hq, hx⟩ := hg
    obtain ⟨us, rv, p, _⟩ := I.tuple hq
    have p2 : s.heap.IsTuple a us.toArray := p
    have len := rv.length
    obtain ⟨f0, f1, f2, f3, f4, f5⟩ := hf it (by simp)
    have hT : s.TypeIs (.ref e) "enumerate" := ⟨_, en, rfl⟩
    unfold pyNext
    refine wpAny_bind (wpAny_attempt (wpAny_callSpecial?_slot (name := Str.ofString "__next__") hT F.slot_enumerate_next (wpAny_call_entry F.slot_enumerate_next hT F.entry_enumerate_next ?_ (F.args_enumerate_next_1 _))))
    show wpAny _ _ (field (.ref e) 2 >>= _) _ _ _
    refine wpAny_bind (wpAny_field en rfl (x := .ref it) rfl ?_)
    refine wpAny_bind (wpAny_nextOf_tuple_end (I.ok.hd hc) hit p2 (by simp; omega) fun h' x eb hx' => ?_)
    obtain ⟨o, ho, co⟩ := hx'
    refine wpAny_bind (wpAny_isInstance (T := "StopIteration") (b := true) ⟨o, ho, co⟩ isSubtype_stop ?_)
    exact wpAny_pure ⟨rfl, I.turned (t' := s.toks) (fun b o hb q => eb b o hb q) f0 f1 f3 f4 f5⟩
  self := fun A i s Q E st h => let ⟨⟨_, en⟩, _⟩ := st; wpAny_pyIter_enum en h
def iEnumA (K : PySem.W.Frag) (ta : TA) : TI := fun σ H R => ta σ H fun vs H1 => ∃ a xs, vs = [.ref a] ∧ ((SqL K H1 a xs ∧ R (Ite K a) H1) ∨ (SqT K H1 a xs ∧ R (IteT K a) H1))
theorem pi_enumA {X : Cx} {e : Expr} {ta : TA} {p pos tpos : Pos} {elts : List Expr} {kk : Nat} (hg : Gl X "enumerate") (hm : X.mg "enumerate" = none) (ha : PA X [e] ta) (hs : starEach [e] X.env = [(false, eval e X.env)] := by rfl) :
    PI X (.Tuple elts kk tpos) (.Call (.Name "enumerate" p) [e] [] pos) (iEnumA X.K ta) := by
  refine ⟨fun pins s σ H R I h => PyProof.Rows.Call_ (ld_blt I hg hm PyProof.Rows.boot_enumerate (PyProof.Rows.callWith_type1 (thn (ha.run pos pins s σ H _ I h) fun us s1 ⟨vs, H1, I1, r1, q1⟩ => ?_) hs rfl))⟩
  obtain ⟨a, xs, ex, q1⟩ := q1
  subst ex
  obtain ⟨u, eu, r⟩ := Vals.one r1
  subst eu
  cases r
  have fr : ∀ b, b ∈ [s1.heap.objs.size + 1, s1.heap.objs.size] → FpOk X pins H1 b := fun b hb => by
    have le : s1.heap.objs.size ≤ b := by
      rcases (show b = s1.heap.objs.size + 1 ∨ b = s1.heap.objs.size by simpa using hb) with z | z <;> omega
    exact I1.fpOk le (I1.hok.fresh le)
  rcases q1 with ⟨hq, q⟩ | ⟨hq, q⟩
  · obtain ⟨us, rv, p, _⟩ := I1.list hq
    refine call_enumerate_list p.isList fun h' en hit _ hk => wpAny_pyIter_enum en ?_
    exact ⟨s1.heap.objs.size + 1, [s1.heap.objs.size + 1, s1.heap.objs.size], _, _, H1, rfl, I1.kept (t' := s1.toks) hk, turn_enum a (s1.heap.objs.size + 1) s1.heap.objs.size, ⟨⟨.none, en⟩, hit, Nat.succ_ne_self _⟩, fr, q⟩
  · obtain ⟨us, rv, p, _⟩ := I1.tuple hq
    refine call_enumT (show s1.heap.IsTuple a us.toArray from p) fun h' en hit hk => wpAny_pyIter_enum en ?_
    exact ⟨s1.heap.objs.size + 1, [s1.heap.objs.size + 1, s1.heap.objs.size], _, _, H1, rfl, I1.kept (t' := s1.toks) hk, turn_enumT a (s1.heap.objs.size + 1) s1.heap.objs.size, ⟨⟨.none, en⟩, hit, Nat.succ_ne_self _⟩, fr, q⟩
/-! the steps -/
def zEnumA (K : PySem.W.Frag) (g : TG) (tb : TS) (D : Ends) (σ : L2.St) (vs : List V) (H1 : Hp) : Prop := ∃ a xs, vs = [.ref a] ∧ ((SqL K H1 a xs ∧ ∃ W : Nat → Nat → L2.St → Hp → Prop, (∃ m, W 0 m σ H1) ∧ ∀ i m σ H, W i m σ H →
  ((Ite K a).stop i H ∧ D.nx σ H) ∨ ((Ite K a).go i H ∧ ∃ N : L2.St → Hp → Prop, (∀ σ' H', N σ' H' → ∃ m', m' < m ∧ W (i + 1) m' σ' H') ∧ ∀ x H', (Ite K a).yld i H x H' → g x σ H' fun σ2 H2 => tb { D with nx := N, ct := N, bk := D.nx } σ2 H2)) ∨
  (SqT K H1 a xs ∧ ∃ W : Nat → Nat → L2.St → Hp → Prop, (∃ m, W 0 m σ H1) ∧ ∀ i m σ H, W i m σ H →
  ((IteT K a).stop i H ∧ D.nx σ H) ∨ ((IteT K a).go i H ∧ ∃ N : L2.St → Hp → Prop, (∀ σ' H', N σ' H' → ∃ m', m' < m ∧ W (i + 1) m' σ' H') ∧ ∀ x H', (IteT K a).yld i H x H' → g x σ H' fun σ2 H2 => tb { D with nx := N, ct := N, bk := D.nx } σ2 H2)))
section
variable {K : PySem.W.Frag} {σ : L2.St} {H : Hp} {D : Ends} {ta : TA} {g : TG} {tb : TS} {a : Addr} {xs : List V}
theorem z_forEA (k : ta σ H fun vs H1 => zEnumA K g tb D σ vs H1) : tFor (iEnumA K ta) g tb D σ H := k
theorem z_enumA {u v : Nat} (h : SqL K H a xs ∨ SqT K H a xs) (Pv : Nat → L2.St → Hp → Prop) (h0 : Pv 0 σ H) (hk : ∀ i σ' H', Pv i σ' H' → Same H H')
    (hs : ∀ i x p σ' H', xs[i]? = some x → Pv i σ' H' → H' p = none → tb { D with nx := Pv (i + 1), ct := Pv (i + 1), bk := D.nx } ((σ'.set u (some (.int (i : Nat)))).set v (some x)) (upd H' p (.tup [.int (i : Nat), x])))
    (hd : ∀ σ' H', Pv xs.length σ' H' → D.nx σ' H') : zEnumA K (gTup K 2 (gCons (gName u) (gCons (gName v) gNil))) tb D σ [.ref a] H := by
  refine ⟨a, xs, rfl, ?_⟩
  rcases h with h | h
  · refine .inl ⟨h, fun i m σ H => m = xs.length - i ∧ i ≤ xs.length ∧ Pv i σ H, ⟨_, rfl, Nat.zero_le _, h0⟩, ?_⟩
    rintro i m σ' H' ⟨rfl, hi, p⟩
    have q1 := Same.seq (hk i σ' H' p) h
    by_cases hlt : i < xs.length
    · refine .inr ⟨⟨xs, xs[i], q1, by simp [hlt]⟩, Pv (i + 1), fun σ2 H2 p' => ⟨_, by omega, rfl, by omega, p'⟩, ?_⟩
      rintro x H2 ⟨T, x1, rfl, hT, rfl, f1⟩
      exact ⟨T, [.int (i : Nat), x1], rfl, .inl (.inl upd_same), rfl, .int (i : Nat), [x1], rfl, x1, [], rfl, rfl, hs i x1 T σ' H' (f1 xs q1) p hT⟩
    · have e : i = xs.length := by omega
      subst e
      exact .inl ⟨⟨xs, q1, by omega⟩, hd σ' H' p⟩
  · refine .inr ⟨h, fun i m σ H => m = xs.length - i ∧ i ≤ xs.length ∧ Pv i σ H, ⟨_, rfl, Nat.zero_le _, h0⟩, ?_⟩
    rintro i m σ' H' ⟨rfl, hi, p⟩
    have q1 := Same.sqT (hk i σ' H' p) h
    by_cases hlt : i < xs.length
    · refine .inr ⟨⟨xs, xs[i], q1, by simp [hlt]⟩, Pv (i + 1), fun σ2 H2 p' => ⟨_, by omega, rfl, by omega, p'⟩, ?_⟩
      rintro x H2 ⟨T, x1, rfl, hT, rfl, f1⟩
      exact ⟨T, [.int (i : Nat), x1], rfl, .inl (.inl upd_same), rfl, .int (i : Nat), [x1], rfl, x1, [], rfl, rfl, hs i x1 T σ' H' (f1 xs q1) p hT⟩
    · have e : i = xs.length := by omega
      subst e
      exact .inl ⟨⟨xs, q1, by omega⟩, hd σ' H' p⟩
end

/-! len(set(xs)) of numbers that may repeat -/
/-- the different ones, in the order in which they come -/
def ddZ (acc : List Int) : List Int → List Int
  | [] => acc
  | x :: xs => ddZ (if acc.any (· == x) then acc else acc ++ [x]) xs
theorem ddZ_snoc (x : Int) : ∀ (xs acc : List Int), ddZ acc (xs ++ [x]) = if (ddZ acc xs).any (· == x) then ddZ acc xs else ddZ acc xs ++ [x]
  | [], acc => rfl
  | y :: ys, acc => ddZ_snoc x ys _
theorem firstMet_ddZ (ns : List Int) : ∀ i, i ≤ ns.length → PyProof.Rows.firstMet (fun i => ns.getD i 0) i = ddZ [] (ns.take i)
  | 0, _ => rfl
  | i + 1, h => by
    have e : ns.take (i + 1) = ns.take i ++ [ns.getD i 0] := by
      rw [List.take_succ, List.getD_eq_getElem?_getD, List.getElem?_eq_getElem (show i < ns.length by omega)]; rfl
    rw [PyProof.Rows.firstMet_succ, firstMet_ddZ ns i (by omega), e, ddZ_snoc]
    rfl
theorem ddZ_le : ∀ (xs acc : List Int), (ddZ acc xs).length ≤ acc.length + xs.length
  | [], acc => Nat.le_refl _
  | x :: xs, acc => by
    have := ddZ_le xs (if acc.any (· == x) then acc else acc ++ [x])
    show (ddZ _ xs).length ≤ _
    split at this <;> rename_i h
    · rw [if_pos h]; simp; omega
    · rw [if_neg h]; simp at this ⊢; omega
theorem ddZ_eq : ∀ (xs acc : List Int), (ddZ acc xs).length = acc.length + xs.length ↔ xs.Nodup ∧ ∀ x ∈ xs, x ∉ acc
  | [], acc => by simp [ddZ]
  | x :: xs, acc => by
    show (ddZ _ xs).length = _ ↔ _
    by_cases h : acc.any (· == x) = true
    · rw [if_pos h]
      have := ddZ_le xs acc
      have hx : x ∈ acc := by
        obtain ⟨y, hy, e⟩ := List.any_eq_true.mp h
        rw [← eq_of_beq e]; exact hy
      constructor
      · intro z; simp at z; omega
      · intro z; exact absurd hx (z.2 x (List.mem_cons_self ..))
    · rw [if_neg h]
      have ih := ddZ_eq xs (acc ++ [x])
      have hx : x ∉ acc := fun hx => h (List.any_eq_true.mpr ⟨x, hx, beq_self_eq_true x⟩)
      rw [show acc.length + (x :: xs).length = (acc ++ [x]).length + xs.length by simp; omega, ih, List.nodup_cons]
      constructor
      · rintro ⟨h1, h2⟩
        refine ⟨⟨fun m => ?_, h1⟩, fun y hy => ?_⟩
        · exact h2 x m (by simp)
        · rcases List.mem_cons.mp hy with rfl | hy
          · exact hx
          · exact fun m => h2 y hy (by simp [m])
      · rintro ⟨⟨h1, h2⟩, h3⟩
        refine ⟨h2, fun y hy m => ?_⟩
        rcases List.mem_append.mp m with m | m
        · exact h3 y (List.mem_cons_of_mem _ hy) m
        · rw [List.mem_singleton.mp m] at hy; exact h1 hy
def setN (ns : List Int) : Nat := (ddZ [] ns).length
theorem setN_le (ns : List Int) : setN ns ≤ ns.length := by have := ddZ_le ns []; simpa [setN] using this
theorem setN_eq (ns : List Int) : setN ns = ns.length ↔ ns.Nodup := by
  have := ddZ_eq ns []
  simp only [List.length_nil, Nat.zero_add, List.not_mem_nil, not_false_eq_true, implies_true, and_true] at this
  exact this
theorem setN_lt (ns : List Int) : setN ns < ns.length ↔ ¬ ns.Nodup := by
  have h1 := setN_le ns
  have h2 := setN_eq ns
  constructor
  · intro h z; rw [← h2] at z; omega
  · intro h
    rcases Nat.lt_or_ge (setN ns) ns.length with q | q
    · exact q
    · exact absurd (h2.mp (by omega)) h
def tLenSet (K : PySem.W.Frag) (ta : TE) : TE := fun σ H Q => ta σ H fun x H1 => ∃ (l : Addr) (ns : List Int), x = .ref l ∧ SqL K H1 l (ns.map V.int) ∧ ns.length ≤ 4000 ∧ Q (.int (setN ns : Nat)) H1
theorem z_lenSetE {X : Cx} {a : Expr} {ta : TE} {p p2 q pos : Pos} (hg : Gl X "len") (m_len : X.mg "len" = none) (hg2 : Gl X "set") (m_set : X.mg "set" = none) (ha : PE X a ta) (hc : X.calm = true := by rfl)
    (na : starEach [a] X.env = (false, eval a X.env) :: starEach [] X.env := by rfl) : PE X (.Call (.Name "len" p) [.Call (.Name "set" p2) [a] [] q] [] pos) (tLenSet X.K ta) := by
  refine ⟨fun pins s σ H Q I h => PyProof.Rows.Call_ (ld_blt I hg m_len boot_len (PyProof.Rows.callWith_builtin1 (PyProof.Rows.args_cons (PyProof.Rows.Call_ (ld_blt I hg2 m_set PyProof.Rows.boot_set (PyProof.Rows.callWith_type1 (PyProof.Rows.args_cons (thn (ha.run pins s σ H _ I h) fun v s1 ⟨x, H1, I1, r1, q1⟩ => PyProof.Rows.args_nil ?_) na) na rfl))) rfl) rfl rfl))⟩
  obtain ⟨l, ns, rfl, hq, hl, q1⟩ := q1
  cases r1
  obtain ⟨us, r, pl, _⟩ := I1.list hq
  have nn : us.toArray.size = ns.length := by rw [List.size_toArray, ← r.length, List.length_map]
  refine PySem.call_set_list (I1.ok.hd hc) pl.isList (by simpa using RZ.intsAre_vals r) (by rw [nn]; unfold scanBound; omega) fun h' tk hS hk => PyProof.Rows.args_nil ?_
  rw [nn, firstMet_ddZ ns ns.length (Nat.le_refl _), List.take_length] at hS
  obtain ⟨o, es, ep, t, ho, hex, hd, _, _, _, hf, hn⟩ := hS
  have lt : (ddZ [] ns).length ≤ 4000 := Nat.le_trans (setN_le ns) hl
  have J : Inv X pins σ H1 { s1 with heap := h', toks := tk } := I1.kept fun b o e => hk b o (Heap.lt_size e) e
  exact call_len_set ho hex hd hf (by rw [hn]; omega) ⟨.int (setN ns : Nat), H1, J.tok _, ⟨_, by rw [hn]; rfl⟩, q1⟩
theorem z_lenSet {K : PySem.W.Frag} {ta : TE} {σ : L2.St} {H : Hp} {Q : VK} (k : ta σ H fun x H1 => ∃ (l : Addr) (ns : List Int), x = .ref l ∧ SqL K H1 l (ns.map V.int) ∧ ns.length ≤ 4000 ∧ Q (.int (setN ns : Nat)) H1) : tLenSet K ta σ H Q := k

/-! own classes: what is known of each, by its name -/
/-- where the classes stand, and which there are -/
structure CEnv where
  cls : Str → Addr
  has : Str → Prop
/-- the package's classes below another one -/
def SUBE : List (Str × Str) := [("InvalidSchema", "SurenearError"), ("InvalidRecord", "SurenearError"), ("InvalidKey", "SurenearError"), ("InvalidFilter", "SurenearError"), ("InvalidQuery", "SurenearError"), ("InvalidRule", "SurenearError"), ("InvalidCode", "SurenearError")]
def SUBE2 : List (Str × Str) := [("InvalidOperation", "SurenearError"), ("InvalidSource", "SurenearError"), ("NoSuchMoment", "SurenearError"), ("NotPinned", "SurenearError"), ("NoSuchQuery", "SurenearError"), ("NotNow", "SurenearError"), ("NotUp", "SurenearError")]
def SUBP : List (Str × Str) := [("Norms", "Fact"), ("Parts", "Fact"), ("Cell", "Fact"), ("Box", "Fact"), ("Differ", "Fact"), ("Counts", "Fact"), ("Names", "Fact"), ("Range", "FieldFact"), ("Values", "FieldFact"), ("Range", "Fact"), ("Values", "Fact"), ("FieldFact", "Fact"),
  ("Every", "Condition"), ("Has", "Condition"), ("Compare", "Condition"), ("OneOf", "Condition"), ("Both", "Condition"), ("Either", "Condition"), ("Negation", "Condition")]
def SUB (x y : Str) : Bool := x == y || SUBP.contains (x, y) || SUBE.contains (x, y) || SUBE2.contains (x, y)
structure ClsOk (K : PySem.W.Frag) (c : CEnv) (x : Str) (gs : List Str) : Prop where
  cl : Cls K (c.cls x)
  na : ∀ f, gs.contains f = true → NoAttr K (c.cls x) f
  ha : PySem.W.findIn K (.ref (c.cls x)) "__class__" = some (some (.builtin "object.__class__"))
  hn : PySem.W.specialIn K (.builtin "object.__class__") "__get__" = some (some (.builtin "getset_descriptor.__get__"))
  htk : PySem.W.takesIn K (.builtin "object.__class__") = some true
  hm : PySem.W.mroIn K (c.cls x) (.type "object") = some true
  sub : ∀ y, c.has y → PySem.W.kitOne K (.ref (c.cls x)) (.ref (c.cls y)) = some (SUB x y)
  sb : ∀ y, c.has y → PySem.W.subIn K (.ref (c.cls x)) (.ref (c.cls y)) = some (SUB x y)
/-- the class named, as isinstance asks of it -/
structure IsF (K : PySem.W.Frag) (c : CEnv) (x : Str) : Prop where
  has : c.has x
  ki : ∀ n, ["int", "bool", "str", "NoneType", "tuple", "list", "dict"].contains n = true → PySem.W.kitOne K (.type n) (.ref (c.cls x)) = some false
  si : ∀ n, ["int", "bool", "str", "NoneType", "tuple", "list", "dict"].contains n = true → PySem.W.subIn K (.type n) (.ref (c.cls x)) = some false
/-- an instance stands at p -/
def InsAt (K : PySem.W.Frag) (c : CEnv) (H : Hp) (p : Addr) (x : Str) (fs : List (Str × V)) : Prop := ClsOk K c x (fs.map (·.1)) ∧ ∃ dx, H p = some (.ins (c.cls x) dx fs)
theorem InsAt.same {K : PySem.W.Frag} {c : CEnv} {H H' : Hp} {p : Addr} {x : Str} {fs : List (Str × V)} (s : Same H H') (i : InsAt K c H p x fs) : InsAt K c H' p x fs := ⟨i.1, i.2.choose, s _ _ i.2.choose_spec⟩
theorem NotSt.ins {C dx : Addr} {fs : List (Str × V)} : NotSt (.ins C dx fs) := fun _ _ _ z => by cases z
theorem NotSt.tup {xs : List V} : NotSt (.tup xs) := fun _ _ _ z => by cases z
theorem InsAt.exd {K : PySem.W.Frag} {c : CEnv} {H H' : Hp} {p : Addr} {x : Str} {fs : List (Str × V)} (s : ExD H H') (i : InsAt K c H p x fs) : InsAt K c H' p x fs := ⟨i.1, i.2.choose, s _ _ NotSt.ins i.2.choose_spec⟩
theorem InsAt.new {K : PySem.W.Frag} {c : CEnv} {H : Hp} {p r : Addr} {x : Str} {fs : List (Str × V)} {o : HO} (h : H r = none) (i : InsAt K c H p x fs) : InsAt K c (upd H r o) p x fs := ⟨i.1, i.2.choose, lk_new h i.2.choose_spec⟩
theorem InsAt.putL {K : PySem.W.Frag} {c : CEnv} {H : Hp} {p r : Addr} {x : Str} {fs : List (Str × V)} {xs : List V} {o : HO} (h : H r = some (.lst xs)) (i : InsAt K c H p x fs) : InsAt K c (upd H r o) p x fs := ⟨i.1, i.2.choose, lk_df i.2.choose_spec h (fun z => by cases z)⟩
/-! ### making, methods, properties, == -/
structure Mkr (P : Program) (w : World) (K : PySem.W.Frag) (mg : Str → Option Value) (base : Heap) (k : Nat) (C : Addr) (ps : List Str) (sp : Sp) : Prop where
  ex : ∃ (f : Addr) (fd : FuncData), Mk K C f ∧ Binds K fd ps [] ∧ FnOk P w K mg base CX0 k f fd ps sp
structure Mth (P : Program) (w : World) (K : PySem.W.Frag) (mg : Str → Option Value) (base : Heap) (k : Nat) (C : Addr) (m : Str) (ps : List Str) (sp : Sp) : Prop where
  ex : ∃ (f : Addr) (fd : FuncData), Meth K C m f ∧ Binds K fd ps [] ∧ FnOk P w K mg base CX0 k f fd ps sp
structure Prp (P : Program) (w : World) (K : PySem.W.Frag) (mg : Str → Option Value) (base : Heap) (k : Nat) (C : Addr) (m : Str) (ps : List Str) (sp : Sp) : Prop where
  ex : ∃ (p f : Addr) (fd : FuncData), PropOf K C m p f ∧ Binds K fd ps [] ∧ FnOk P w K mg base CX0 k f fd ps sp
structure ClsF (K : PySem.W.Frag) (mg : Str → Option Value) (c : CEnv) (x : Str) (gs : List Str) : Prop where
  ok : ClsOk K c x gs
  is : c.has x → IsF K c x
  mg : mg x = some (.ref (c.cls x))
def tMk (K : PySem.W.Frag) (c : CEnv) (x : Str) (gs : List Str) (sp : Sp) (t : TA) : TE := fun σ H Q => t σ H fun vs H1 => ClsOk K c x gs → ∀ p dx, H1 p = none → H1 dx = none → dx ≠ p →
  sp (.ref p :: vs) (upd (upd H1 dx (.own p)) p (.ins (c.cls x) dx [])) (fun v H2 => v = .non ∧ Q (.ref p) H2) E0
def tMt (c : CEnv) (x m : Str) (sp : Sp) (ta : TE) (t : TA) : TE := fun σ H Q => ta σ H fun v H1 => ∃ a dx fs, v = .ref a ∧ H1 a = some (.ins (c.cls x) dx fs) ∧ fs.lookup m = none ∧ t σ H1 fun vs H2 => sp (v :: vs) H2 Q E0
def tPr (c : CEnv) (x : Str) (sp : Sp) (ta : TE) : TE := fun σ H Q => ta σ H fun v H1 => ∃ a dx fs, v = .ref a ∧ H1 a = some (.ins (c.cls x) dx fs) ∧ sp [.ref a] H1 Q E0
def tCls (K : PySem.W.Frag) (c : CEnv) (x : Str) : TE := fun _ H Q => IsF K c x → Q (.ref (c.cls x)) H
/-- == of two instances of one class, by its own __eq__ -/
def uEqO (c : CEnv) (x : Str) (sp : Sp) : R2 := fun u v H Q => ∃ a b dx dy fs gs, u = .ref a ∧ v = .ref b ∧ H a = some (.ins (c.cls x) dx fs) ∧ H b = some (.ins (c.cls x) dy gs) ∧ sp [.ref a, .ref b] H (fun z H' => ∃ k, z = .bl k ∧ Q (.bl k) H') E0
section
variable {X : Cx} {c : CEnv} {k : Nat} {x m : Str} {ps gs : List Str} {sp : Sp} {p pos apos : Pos} {e o : Expr} {es : List Expr} {t : TA} {ta : TE}
theorem z_make (CF : ClsF X.K X.mg c x gs) (M : Mkr X.prog X.w X.K X.mg X.base k (c.cls x) ps sp) (hr : Room (k + 1) X.A) (hg : Gl X x) (ha : PA X (e :: es) t) (hdb : (x == ("__debug__" : Str)) = false := by decide)
    (he : starEach (e :: es) X.env = (false, eval e X.env) :: starEach es X.env := by rfl) (hpl : (backTo pos (starEach es X.env)).any (·.1) = false := by rfl) : PE X (.Call (.Name x p) (e :: es) [] pos) (tMk X.K c x gs sp t) := by
  obtain ⟨f, fd, hM, hb, F⟩ := M.ex
  have h := pe_make (E := E0) (dvs := []) (p := p) (pos := pos) hM F hr hg CF.mg hb .nil pass0 ha hdb he hpl
  refine ⟨fun pins s σ H Q I q => h.run pins s σ H Q I ?_⟩
  simp only [tMake, List.append_nil]
  have e : (t σ H fun vs H1 => ClsOk X.K c x gs → ∀ p dx, H1 p = none → H1 dx = none → dx ≠ p → sp (.ref p :: vs) (upd (upd H1 dx (.own p)) p (.ins (c.cls x) dx [])) (fun v H2 => v = .non ∧ Q (.ref p) H2) E0)
      = (t σ H fun vs H1 => ∀ p dx, H1 p = none → H1 dx = none → dx ≠ p → sp (.ref p :: vs) (upd (upd H1 dx (.own p)) p (.ins (c.cls x) dx [])) (fun v H2 => v = .non ∧ Q (.ref p) H2) E0) := by
    congr 1; funext vs H1; exact propext ⟨fun h => h CF.ok, fun h _ => h⟩
  rw [← e]; exact q
theorem z_meth {pl : Sem Bool} (he : PE X o ta) (CF : ClsF X.K X.mg c x gs) (M : Mth X.prog X.w X.K X.mg X.base k (c.cls x) m ps sp) (hr : Room k X.A) (ha : PA X (e :: es) t)
    (hst : starEach (e :: es) X.env = (false, eval e X.env) :: starEach es X.env := by rfl) (hpl : (backTo pos (starEach es X.env)).any (·.1) = false := by rfl)
    (ht : eval (.Call (.Attribute o m apos) (e :: es) [] pos) X.env = (do
      let ov ← eval o X.env
      standAt apos.atName
      let (f, first) ← holding [ov] (getMethod ov m pl)
      callWith pos f first (backTo pos (starEach (e :: es) X.env)) (backToKw pos (keywordEach [] X.env))) := by rfl) : PE X (.Call (.Attribute o m apos) (e :: es) [] pos) (tMt c x m sp ta t) := by
  obtain ⟨f, fd, hM, hb, F⟩ := M.ex
  have h := pe_meth (E := E0) (dvs := []) he CF.ok.cl hM F hr hb .nil pass0 ha hst hpl ht
  have e : tMeth (c.cls x) m sp [] E0 ta t = tMt c x m sp ta t := by
    funext σ H Q; simp only [tMeth, tMt, List.append_nil]
  rw [← e]; exact h
theorem z_meth0 {pl : Sem Bool} (he : PE X o ta) (CF : ClsF X.K X.mg c x gs) (M : Mth X.prog X.w X.K X.mg X.base k (c.cls x) m ps sp) (hr : Room k X.A)
    (ht : eval (.Call (.Attribute o m apos) [] [] pos) X.env = (do
      let ov ← eval o X.env
      standAt apos.atName
      let (f, first) ← holding [ov] (getMethod ov m pl)
      callWith pos f first (backTo pos (starEach [] X.env)) (backToKw pos (keywordEach [] X.env))) := by rfl) : PE X (.Call (.Attribute o m apos) [] [] pos) (tMt c x m sp ta tNil) := by
  obtain ⟨f, fd, hM, hb, F⟩ := M.ex
  have h := pe_meth0 (E := E0) (dvs := []) he CF.ok.cl hM F hr hb .nil pass0 ht
  refine ⟨fun pins s σ H Q I q => h.run pins s σ H Q I ?_⟩
  first
    | exact q
    | (simp only [List.append_nil] at *; exact q)
theorem z_prop (he : PE X e ta) (CF : ClsF X.K X.mg c x gs) (M : Prp X.prog X.w X.K X.mg X.base k (c.cls x) m ps sp) (hr : Room (k + 1) X.A) (hab : attributeBase e m X.env (eval e X.env) = eval e X.env) : PE X (.Attribute e m pos) (tPr c x sp ta) := by
  obtain ⟨q, f, fd, hM, hb, F⟩ := M.ex
  exact pe_prop (E := E0) (dvs := []) he CF.ok.cl hM F hr hb .nil pass0 hab
theorem z_cls (CF : ClsF X.K X.mg c x gs) (I' : IsF X.K c x) (hg : Gl X x) (hdb : (x == ("__debug__" : Str)) = false := by decide) : PE X (.Name x pos) (tCls X.K c x) :=
  ⟨fun _ _ _ H _ I h => ld_glob I hg CF.mg ⟨.ref (c.cls x), H, I, rfl, h I'⟩ hdb⟩
theorem op_eqO (CF : ClsF X.K X.mg c x gs) (M : Mth X.prog X.w X.K X.mg X.base k (c.cls x) "__eq__" ps sp) (hr : Room k X.A) : OpR X (compareOp .Eq) (uEqO c x sp) := by
  intro pins s σ H u v y z Q I rx ry hq
  obtain ⟨f, fd, hM, hb, F⟩ := M.ex
  obtain ⟨a, b, dx, dy, fs, hs, rfl, rfl, ha, hb', q⟩ := hq
  cases rx
  cases ry
  obtain ⟨mA, J, _⟩ := ins_get I.hok ha
  obtain ⟨mB, J', _⟩ := ins_get I.hok hb'
  obtain ⟨od, J, _⟩ := J.look
  obtain ⟨od', J', _⟩ := J'.look
  obtain ⟨m, hF⟩ := I.fr
  show wpAny (model X.prog X.w) X.A (richCompare .Eq (.ref a) (.ref b)) (EP X pins σ Q) X.xe s
  refine PySem.W.cmp_K (op := .Eq) (tb := .ref (c.cls x)) hr.units0 hF I.ok.mod.kin J J'.type (by simp [PySem.W.notFirst]) hM.at_ hM.fn ?_
  have r2 : Vals [V.ref a, V.ref b] [Value.ref a, Value.ref b] := .cons rfl (.cons rfl .nil)
  refine thn (run_fn (Q := fun z H' => ∃ k, z = .bl k ∧ Q (.bl k) H') (E := E0) (dvs := []) F hr hb .nil pass0 I r2 (by simpa using q)) fun w s' hw => ?_
  obtain ⟨zv, H', I', rz, hq⟩ := hw
  obtain ⟨kk, ez, q'⟩ := hq
  subst ez
  have rz2 : w = Value.bool kk := rz
  subst rz2
  exact ⟨.bl kk, H', I', rfl, q'⟩
end
/-- == of an instance and a tuple, by the instance's own __eq__ -/
def uEqT (K : PySem.W.Frag) (c : CEnv) (x : Str) (sp : Sp) : R2 := fun u v H Q => ∃ a b dx fs xs, u = .ref a ∧ v = .ref b ∧ H a = some (.ins (c.cls x) dx fs) ∧ SqT K H b xs ∧ sp [.ref a, .ref b] H (fun z H' => ∃ k, z = .bl k ∧ Q (.bl k) H') E0
section
variable {X : Cx} {c : CEnv} {k : Nat} {x : Str} {ps gs : List Str} {sp : Sp}
theorem op_eqT (CF : ClsF X.K X.mg c x gs) (IF : IsF X.K c x) (M : Mth X.prog X.w X.K X.mg X.base k (c.cls x) "__eq__" ps sp) (hr : Room k X.A) : OpR X (compareOp .Eq) (uEqT X.K c x sp) := by
  intro pins s σ H u v y z Q I rx ry hq
  obtain ⟨f, fd, hM, hb, F⟩ := M.ex
  obtain ⟨a, b, dx, fs, xs, rfl, rfl, ha, hb', q⟩ := hq
  cases rx
  cases ry
  obtain ⟨mA, J, _⟩ := ins_get I.hok ha
  obtain ⟨od, J, _⟩ := J.look
  obtain ⟨its, r, hT, _⟩ := I.tuple hb'
  have hT : s.heap.IsTuple b its.toArray := hT
  obtain ⟨oT, hoT, hcT, _⟩ := id hT
  have LT : PySem.W.Looks (model X.prog X.w) s.heap (typeOf (.ref b)) (.type "tuple") := fun A Q E s k q => wpAny_typeOf_ref (k _ _ hoT) (by rw [hcT]; exact q)
  obtain ⟨m, hF⟩ := I.fr
  show wpAny (model X.prog X.w) X.A (richCompare .Eq (.ref a) (.ref b)) (EP X pins σ Q) X.xe s
  have hn : PySem.W.notFirst X.K (c.cls x) (.type "tuple") = true := by
    unfold PySem.W.notFirst
    rw [IF.si "tuple" (by decide)]
    simp
  refine PySem.W.cmp_K (op := .Eq) (tb := .type "tuple") hr.units0 hF I.ok.mod.kin J LT hn hM.at_ hM.fn ?_
  have r2 : Vals [V.ref a, V.ref b] [Value.ref a, Value.ref b] := .cons rfl (.cons rfl .nil)
  refine thn (run_fn (Q := fun z H' => ∃ k, z = .bl k ∧ Q (.bl k) H') (E := E0) (dvs := []) F hr hb .nil pass0 I r2 (by simpa using q)) fun w s' hw => ?_
  obtain ⟨zv, H', I', rz, hq⟩ := hw
  obtain ⟨kk, ez, q'⟩ := hq
  subst ez
  have rz2 : w = Value.bool kk := rz
  subst rz2
  exact ⟨.bl kk, H', I', rfl, q'⟩
end
section
variable {K : PySem.W.Frag} {c : CEnv} {x f : Str} {gs : List Str} {H : Hp} {Q : VK} {p dx : Addr} {fs : List (Str × V)} {v : V} {σ : L2.St} {t : TA} {ta : TE} {sp : Sp} {m : Str}
theorem z_fld (ok : ClsOk K c x gs) (h : H p = some (.ins (c.cls x) dx fs)) (l : fs.lookup f = some v) (n : gs.contains f = true) (k : Q v H) : zFld K f (.ref p) H Q := ⟨p, _, dx, fs, v, rfl, h, ok.cl, ok.na f n, l, k⟩
theorem z_set {N : Hp → Prop} {y : V} (ok : ClsOk K c x gs) (h : H p = some (.ins (c.cls x) dx fs)) (n : gs.contains f = true) (l : fs.length < 1000) (k : N (upd H p (.ins (c.cls x) dx (putF f y fs)))) : zSet K f y (.ref p) H N := ⟨p, _, dx, fs, rfl, h, ok.cl, ok.na f n, l, k⟩
theorem z_mk (k : t σ H fun vs H1 => ClsOk K c x gs → ∀ p dx, H1 p = none → H1 dx = none → dx ≠ p → sp (.ref p :: vs) (upd (upd H1 dx (.own p)) p (.ins (c.cls x) dx [])) (fun v H2 => v = .non ∧ Q (.ref p) H2) E0) : tMk K c x gs sp t σ H Q := k
theorem z_mt (k : ta σ H fun v H1 => ∃ a dx fs, v = .ref a ∧ H1 a = some (.ins (c.cls x) dx fs) ∧ fs.lookup m = none ∧ t σ H1 fun vs H2 => sp (v :: vs) H2 Q E0) : tMt c x m sp ta t σ H Q := k
theorem z_pr (k : ta σ H fun v H1 => ∃ a dx fs, v = .ref a ∧ H1 a = some (.ins (c.cls x) dx fs) ∧ sp [.ref a] H1 Q E0) : tPr c x sp ta σ H Q := k
theorem z_clsv (k : IsF K c x → Q (.ref (c.cls x)) H) : tCls K c x σ H Q := k
theorem z_isIns {y : Str} (i : IsF K c y) (ok : ClsOk K c x gs) (h : H p = some (.ins (c.cls x) dx fs)) (k : Q (.bl (SUB x y)) H) : uIsi K [.ref p, .ref (c.cls y)] H Q :=
  z_isi (ClsV.own _) (TyX.base (TyOf.ins h ok.cl ok.ha ok.hn ok.htk ok.hm)) (ok.sub y i.has) k
end
theorem na_of {P : Str → Prop} {gs : List Str} (h : ∀ f ∈ gs, P f) : ∀ f, gs.contains f = true → P f := fun f hf => h f (by simpa using hf)
theorem ki_of {K : PySem.W.Frag} {C : Addr} (h : ∀ n ∈ ["int", "bool", "str", "NoneType", "tuple", "list", "dict"], PySem.W.kitOne K (.type n) (.ref C) = some false) : ∀ n, ["int", "bool", "str", "NoneType", "tuple", "list", "dict"].contains n = true → PySem.W.kitOne K (.type n) (.ref C) = some false := fun n hn => h n (by simpa using hn)
theorem si_of {K : PySem.W.Frag} {C : Addr} (h : ∀ n ∈ ["int", "bool", "str", "NoneType", "tuple", "list", "dict"], PySem.W.subIn K (.type n) (.ref C) = some false) : ∀ n, ["int", "bool", "str", "NoneType", "tuple", "list", "dict"].contains n = true → PySem.W.subIn K (.type n) (.ref C) = some false := fun n hn => h n (by simpa using hn)
theorem kit_own {K : PySem.W.Frag} {t : Value} {C : Addr} {b : Bool} (ic : PySem.W.isClsIn K C = true) (ty : PySem.W.typeIn K (.ref C) = some (.type "type")) (ss : PySem.W.subIn K (.ref C) (.ref C) = some true) (sb : PySem.W.subIn K t (.ref C) = some b) : PySem.W.kitOne K t (.ref C) = some b := by
  unfold PySem.W.kitOne
  split
  · rename_i h
    have e : t = .ref C := eq_of_beq h
    subst e
    rw [ss] at sb; exact sb
  · unfold PySem.W.kitCls
    have h1 : (PySem.W.clsIn K C).isSome = true := ic
    dsimp only
    rw [h1, ty]
    exact sb

local macro_rules | `(tactic| walk_at "z") => `(tactic| with_reducible first
  | ((show zFld _ _ _ _ _); refine z_fld (by assumption) (by walk_at "lk") (by with_unfolding_all rfl) (by with_unfolding_all rfl) ?_)
  | ((show zSet _ _ _ _ _ _); refine z_set (by assumption) (by walk_at "lk") (by with_unfolding_all rfl) (by with_unfolding_all exact of_decide_eq_true rfl) ?_)
  | (refine z_mk ?_) | (refine z_mt ?_) | (refine z_pr ?_) | (refine z_clsv ?_; intro _))

/-! ### lists place by place -/
inductive All2 {α β : Type} (R : α → β → Prop) : List α → List β → Prop
  | nil : All2 R [] []
  | cons {a : α} {b : β} {as : List α} {bs : List β} (h : R a b) (t : All2 R as bs) : All2 R (a :: as) (b :: bs)
section
variable {α β : Type} {R S : α → β → Prop} {as : List α} {bs : List β} {a : α} {b : β}
theorem All2.imp (f : ∀ a b, R a b → S a b) (h : All2 R as bs) : All2 S as bs := by
  induction h with
  | nil => exact .nil
  | cons h t ih => exact .cons (f _ _ h) ih
theorem All2.app (h : All2 R as bs) (e : R a b) : All2 R (as ++ [a]) (bs ++ [b]) := by
  induction h with
  | nil => exact .cons e .nil
  | cons h t ih => exact .cons h ih
theorem All2.len (h : All2 R as bs) : as.length = bs.length := by
  induction h with
  | nil => rfl
  | cons h t ih => simp [ih]
theorem All2.get (h : All2 R as bs) : ∀ {i : Nat} (hi : i < as.length) (hj : i < bs.length), R as[i] bs[i] := by
  induction h with
  | nil => intro i hi; cases hi
  | cons h t ih => intro i hi hj; cases i with
    | zero => exact h
    | succ i => exact ih (by simpa using hi) (by simpa using hj)
theorem All2.of {n : Nat} (ha : as.length = n) (hb : bs.length = n) (f : ∀ i (hi : i < as.length) (hj : i < bs.length), R as[i] bs[i]) : All2 R as bs := by
  induction as generalizing bs n with
  | nil => cases bs with
    | nil => exact .nil
    | cons b t => simp at ha hb; omega
  | cons a t ih => cases bs with
    | nil => simp at ha hb; omega
    | cons b u => exact .cons (f 0 (by simp) (by simp)) (ih (n := n - 1) (by simp at ha; omega) (by simp at hb; omega) fun i hi hj => f (i + 1) (by simpa using hi) (by simpa using hj))
end
theorem at_ref {ps : List Addr} {i : Int} (h0 : 0 ≤ i) (h1 : i < ps.length) : atI (ps.map V.ref) i = some (.ref (ps.getD i.toNat 0)) := by
  unfold atI
  rw [ix_at h0 (by simpa using h1)]
  have : i.toNat < ps.length := by omega
  simp [List.getD, this]
theorem map_ref {ps : List Addr} {i : Nat} {x : V} (h : (ps.map V.ref)[i]? = some x) : i < ps.length ∧ x = .ref (ps.getD i 0) := by
  rw [List.getElem?_map] at h
  cases e : ps[i]? with
  | none => rw [e] at h; cases h
  | some y =>
    rw [e] at h
    obtain ⟨l, _⟩ := List.getElem?_eq_some_iff.mp e
    exact ⟨l, by rw [List.getD_eq_getElem?_getD, e]; exact (Option.some.inj h).symm⟩
theorem ref_app {ps : List Addr} {q : Addr} : ps.map V.ref ++ [V.ref q] = (ps ++ [q]).map V.ref := by simp
section
variable {α β : Type} {R : α → β → Prop} {as : List α} {bs : List β} {a : α} {b : β}
theorem All2.atD (h : All2 R as bs) (d : α) (e : β) {i : Nat} (hi : i < bs.length) : R (as.getD i d) (bs.getD i e) := by
  have hj : i < as.length := by rw [All2.len h]; exact hi
  have q := All2.get h hj hi
  rw [List.getD_eq_getElem?_getD, List.getD_eq_getElem?_getD, List.getElem?_eq_getElem hi, List.getElem?_eq_getElem hj]
  exact q
theorem All2.take (h : All2 R as bs) : ∀ k : Nat, All2 R (as.take k) (bs.take k) := by
  induction h with
  | nil => intro k; rw [List.take_nil, List.take_nil]; exact .nil
  | cons h t ih => intro k; cases k with
    | zero => exact .nil
    | succ k => exact .cons h (ih k)
theorem All2.drop (h : All2 R as bs) : ∀ k : Nat, All2 R (as.drop k) (bs.drop k) := by
  induction h with
  | nil => intro k; rw [List.drop_nil, List.drop_nil]; exact .nil
  | cons h t ih => intro k; cases k with
    | zero => exact .cons h t
    | succ k => exact ih k
theorem All2.mem (h : All2 R as bs) (ha : a ∈ as) : ∃ b ∈ bs, R a b := by
  induction h with
  | nil => cases ha
  | cons h t ih =>
    rcases List.mem_cons.mp ha with rfl | ha
    · exact ⟨_, List.mem_cons_self .., h⟩
    · obtain ⟨b, hb, r⟩ := ih ha; exact ⟨b, List.mem_cons_of_mem _ hb, r⟩
end
theorem Same.put {H H' : Hp} {p : Addr} {o : HO} (h : H p = none) (x : Same H H') : Same H (upd H' p o) := fun a u e => lk_ne (ne_of_none e h) (x a u e)
theorem fresh_same {H H' : Hp} {p : Addr} (s : Same H H') (h : H' p = none) : H p = none := by
  cases e : H p with
  | none => rfl
  | some o => rw [s _ _ e] at h; cases h
theorem take_dS {α : Type} {l : List α} {i : Nat} (d : α) (h : i < l.length) : l.take (i + 1) = l.take i ++ [l.getD i d] := by
  rw [List.take_succ, List.getD_eq_getElem?_getD, List.getElem?_eq_getElem h]; rfl
theorem getD_mem' {α : Type} {l : List α} {i : Nat} (d : α) (h : i < l.length) : l.getD i d ∈ l := by
  rw [List.getD_eq_getElem?_getD, List.getElem?_eq_getElem h]; exact List.getElem_mem h

/-! what may be raised; keywords -/
/-- no way out -/
abbrev W0 : WX := fun _ _ _ _ => False
theorem passF {X : Cx} : ∀ σ, PassesAt (L2.CX X.prog X.w) X σ (WE W0 σ) := fun σ => passAt takes0 σ
theorem passW {X : Cx} {W : WX} (tk : Takes X W) : ∀ σ, PassesAt (L2.CX X.prog X.w) X σ (WE W σ) := fun σ => passAt tk σ
theorem pass00 {X : Cx} : ∀ σ, PassesAt CX0 X σ (WE W0 σ) := fun σ pins H s e s' I c => pass0 pins σ H s e s' I c
/-- a body that may raise keeps its promise -/
def WdX (T : WX → TS) (N : List Str) (n : Nat) (sp : Sp) : Prop := ∀ (vs : List V) (H : Hp) (Q : VK) (E : XK), sp vs H Q E → vs.length = n ∧ T (fun cls d _ H => E cls d H) { nx := fun _ H' => Q .non H', rt := Q } (start N vs) H
structure DfnX (P : Program) (w : World) (K : PySem.W.Frag) (mg : Str → Option Value) (base : Heap) (k : Nat) (x : Str) (ps : List Str) (sp : Sp) : Prop where
  ex : ∃ (f : Addr) (fd : FuncData), mg x = some (.ref f) ∧ PySem.W.keepIn K (.ref f) = true ∧ Binds K fd ps [] ∧ FnOk P w K mg base (L2.CX P w) k f fd ps sp
structure MkrX (P : Program) (w : World) (K : PySem.W.Frag) (mg : Str → Option Value) (base : Heap) (k : Nat) (C : Addr) (ps : List Str) (sp : Sp) : Prop where
  ex : ∃ (f : Addr) (fd : FuncData), Mk K C f ∧ Binds K fd ps [] ∧ FnOk P w K mg base (L2.CX P w) k f fd ps sp
structure MthX (P : Program) (w : World) (K : PySem.W.Frag) (mg : Str → Option Value) (base : Heap) (k : Nat) (C : Addr) (m : Str) (ps : List Str) (sp : Sp) : Prop where
  ex : ∃ (f : Addr) (fd : FuncData), Meth K C m f ∧ Binds K fd ps [] ∧ FnOk P w K mg base (L2.CX P w) k f fd ps sp
/-- a constant: a value, or the empty tuple -/
inductive Cst where
  | v (x : V)
  | e
def Cst.Is (K : PySem.W.Frag) : Cst → V → Prop
  | .v x, u => u = x
  | .e, u => ∃ T, u = .ref T ∧ ∀ H, SqT K H T []
/-- keyword-only values by places: true: given, false: lacking -/
def gSel (sel : List (Bool × Nat)) {α : Type} (vs mz zs : List α) : List α := vs ++ sel.filterMap fun z => if z.1 then zs[z.2]? else mz[z.2]?
theorem gSel_rel (sel : List (Bool × Nat)) {vs mz zs : List V} {us mv ws : List Value} (h1 : Vals vs us) (h2 : Vals mz mv) (h3 : Vals zs ws) : Vals (gSel sel vs mz zs) (gSel sel us mv ws) := by
  unfold gSel
  refine h1.append ?_
  have one : ∀ {xs : List V} {as : List Value} (i : Nat), Vals xs as → (xs[i]? = none ∧ as[i]? = none) ∨ ∃ x a, xs[i]? = some x ∧ as[i]? = some a ∧ RelV x a := by
    intro xs as i r
    cases e : xs[i]? with
    | none => exact .inl ⟨rfl, Vals.none_of r e⟩
    | some x => obtain ⟨a, ea, ra⟩ := Vals.get r e; exact .inr ⟨x, a, rfl, ea, ra⟩
  induction sel with
  | nil => exact .nil
  | cons z t ih =>
    obtain ⟨b, i⟩ := z
    cases b with
    | true =>
      rcases one i h3 with ⟨e1, e2⟩ | ⟨x, a, e1, e2, r⟩
      · simp only [List.filterMap_cons, if_pos, e1, e2]; exact ih
      · simp only [List.filterMap_cons, if_pos, e1, e2]; exact .cons r ih
    | false =>
      rcases one i h2 with ⟨e1, e2⟩ | ⟨x, a, e1, e2, r⟩
      · simp only [List.filterMap_cons, Bool.false_eq_true, if_false, e1, e2]; exact ih
      · simp only [List.filterMap_cons, Bool.false_eq_true, if_false, e1, e2]; exact .cons r ih
/-- making by n values and the keywords ks; ms: what is lacking -/
structure MkrK (CX : CXT) (P : Program) (w : World) (K : PySem.W.Frag) (mg : Str → Option Value) (base : Heap) (k : Nat) (C : Addr) (ps : List Str) (sp : Sp) (n : Nat) (ks : List Str) (ms : List Cst) (sel : List (Bool × Nat)) : Prop where
  ex : ∃ (f : Addr) (fd : FuncData) (g : List Value → List Value → List Value) (ds : List V), Mk K C f ∧ All2 (Cst.Is K) ms ds ∧ KBn K fd ps (n + 1) ks g (fun vs zs => gSel sel vs ds zs) ∧ FnOk P w K mg base CX k f fd ps sp
def tMkX (K : PySem.W.Frag) (c : CEnv) (x : Str) (gs : List Str) (sp : Sp) (W : WX) (t : TA) : TE := fun σ H Q => t σ H fun vs H1 => ClsOk K c x gs → ∀ p dx, H1 p = none → H1 dx = none → dx ≠ p →
  sp (.ref p :: vs) (upd (upd H1 dx (.own p)) p (.ins (c.cls x) dx [])) (fun v H2 => v = .non ∧ Q (.ref p) H2) (WE W σ)
def tMkK (K : PySem.W.Frag) (c : CEnv) (x : Str) (gs : List Str) (n m : Nat) (ms : List Cst) (sel : List (Bool × Nat)) (sp : Sp) (W : WX) (t tk : TA) : TE := fun σ H Q => t σ H fun vs H1 => tk σ H1 fun zs H2 => vs.length = n ∧ zs.length = m ∧ (ClsOk K c x gs → ∀ ds, All2 (Cst.Is K) ms ds → ∀ p dx, H2 p = none → H2 dx = none → dx ≠ p →
  sp (gSel sel (.ref p :: vs) ds zs) (upd (upd H2 dx (.own p)) p (.ins (c.cls x) dx [])) (fun v H3 => v = .non ∧ Q (.ref p) H3) (WE W σ))
def tMtX (c : CEnv) (x m : Str) (sp : Sp) (W : WX) (ta : TE) (t : TA) : TE := fun σ H Q => ta σ H fun v H1 => ∃ a dx fs, v = .ref a ∧ H1 a = some (.ins (c.cls x) dx fs) ∧ fs.lookup m = none ∧ t σ H1 fun vs H2 => sp (v :: vs) H2 Q (WE W σ)
/-! own exceptions -/
structure ExcF (K : PySem.W.Frag) (mg : Str → Option Value) (c : CEnv) (x : Str) : Prop where
  q : PySem.W.excIn K (c.cls x) [.type "ValueError", .type "Exception", .type "BaseException", .type "object"] "ValueError.__new__" = true
  mg : mg x = some (.ref (c.cls x))
  kp : PySem.W.keepIn K (.ref (c.cls x)) = true
  sb : PySem.W.subIn K (.ref (c.cls x)) (.type "BaseException") = some true
  ty : PySem.W.typeIn K (.ref (c.cls x)) = some (.type "type")
def sRaise (c : CEnv) (x : Str) (W : WX) : TS := fun _ σ H => W (.ref (c.cls x)) none σ H
def sTry (K : PySem.W.Frag) (c : CEnv) (x : Str) (ys : List Str) (tb : WX → TS) (ts : TS) (Wo : WX) : TS := fun D σ H =>
  (∀ y ∈ ys, PySem.W.exmOne K (.ref (c.cls y)) (.ref (c.cls x)) = some (SUB y x)) → tb (wOnly K (.ref (c.cls x)) (fun _ _ _ => ts) Wo D) D σ H
section
variable {X : Cx} {c : CEnv} {k n : Nat} {x m : Str} {ps gs : List Str} {sp : Sp} {W : WX} {p pos apos : Pos} {e o : Expr} {es : List Expr} {t tk : TA} {ta : TE}
theorem z_callX (D : DfnX X.prog X.w X.K X.mg X.base k x ps sp) (hx : ∀ σ, PassesAt (L2.CX X.prog X.w) X σ (WE W σ)) (hr : Room k X.A) (hg : Gl X x) (ha : PA X (e :: es) t) (hdb : (x == ("__debug__" : Str)) = false := by decide)
    (he : starEach (e :: es) X.env = (false, eval e X.env) :: starEach es X.env := by rfl) (hpl : (backTo pos (starEach es X.env)).any (·.1) = false := by rfl) : PE X (.Call (.Name x p) (e :: es) [] pos) (tCallS sp (WE W) t) := by
  obtain ⟨f, fd, hm, hk, hb, F⟩ := D.ex
  exact pe_callS F hr hg hm hk hb hx ha hdb he hpl
/-- a made instance: what __init__ raises is wished for at the slots as they stand -/
theorem run_mkS {CX : CXT} {C f : Addr} {fd : FuncData} {ks : List Str} {g : List Value → List Value → List Value} {gV : List V → List V → List V} {E : XK} {pins : List (Addr × Obj)} {σ : L2.St} {H : Hp} {s : Shared} {Q : VK} {us ws : List Value} {vs zs : List V}
    (M : Mk X.K C f) (F : FnOk X.prog X.w X.K X.mg X.base CX k f fd ps sp) (hr : Room (k + 1) X.A) (bind : ∀ s : Shared, X.K.In s.heap → BindsTo s fd ⟨Value.ref (s.heap.objs.size - 1) :: us, ks.zip ws⟩ (ps.zip (g (Value.ref (s.heap.objs.size - 1) :: us) ws)))
    (rel : ∀ q, Vals (gV (V.ref q :: vs) zs) (g (Value.ref q :: us) ws)) (hx : PassesAt CX X σ E) (I : Inv X pins σ H s)
    (h : ∀ q dx, H q = none → H dx = none → dx ≠ q → sp (gV (.ref q :: vs) zs) (upd (upd H dx (.own q)) q (.ins C dx [])) (fun v H2 => v = .non ∧ Q (.ref q) H2) E)
    (bind2 : ∀ (s2 : Shared) (q : Addr), X.K.In s2.heap → BindsTo s2 fd ⟨Value.ref q :: us, ks.zip ws⟩ (ps.zip (g (Value.ref q :: us) ws))) :
    wpAny (model X.prog X.w) X.A (call (.ref C) us (ks.zip ws)) (EP X pins σ Q) X.xe s := by
  have want := h (s.heap.objs.size + 1) s.heap.objs.size (I.hok.fresh (Nat.le_succ _)) (I.hok.fresh (Nat.le_refl _)) (Nat.ne_of_lt (Nat.lt_succ_self _))
  have J := Inv.made (C := C) I
  have go := F.run _ X.stack _ _ ⟨Value.ref (s.heap.objs.size + 1) :: us, ks.zip ws⟩ (g (Value.ref (s.heap.objs.size + 1) :: us) ws) _ _ E (hr.make C us (ks.zip ws)) (J.env0.make C us (ks.zip ws)) (bind2 _ _ J.kIn) (rel _) want
  refine wpAny_call (make_map (f := f) I.kIn M.makes M.init (beq_iff_eq.mp M.fn) (codeAny_mono go fun r s' hr' => ?_))
  match r, hr' with
  | .error e, hr' => exact hx pins _ _ e s' J hr'
  | .ok (.ret u), hr' =>
    obtain ⟨v, H', I3, rv, ev, q3⟩ := J.after hr'
    subst ev
    exact ⟨rv, ⟨V.ref (s.heap.objs.size + 1), H', I3, rfl, q3⟩⟩
  | .ok .next, hr' => exact hr'.elim
  | .ok .brk, hr' => exact hr'.elim
  | .ok .cont, hr' => exact hr'.elim
theorem z_makeX (CF : ClsF X.K X.mg c x gs) (M : MkrX X.prog X.w X.K X.mg X.base k (c.cls x) ps sp) (hx : ∀ σ, PassesAt (L2.CX X.prog X.w) X σ (WE W σ)) (hr : Room (k + 1) X.A) (hg : Gl X x) (ha : PA X (e :: es) t) (hdb : (x == ("__debug__" : Str)) = false := by decide)
    (he : starEach (e :: es) X.env = (false, eval e X.env) :: starEach es X.env := by rfl) (hpl : (backTo pos (starEach es X.env)).any (·.1) = false := by rfl) : PE X (.Call (.Name x p) (e :: es) [] pos) (tMkX X.K c x gs sp W t) := by
  obtain ⟨f, fd, hM, hb, F⟩ := M.ex
  refine ⟨fun pins s σ H Q I h => ?_⟩
  refine wpAny_Call_Name_kw (ld_glob I hg CF.mg ?_ hdb)
  refine PySem.W.callWith_K (h₀ := X.base) I.ok.mod.kin hM.kp (thn (ha.run pos pins s σ H _ I h) fun us s1 ⟨vs, H1, I1, r, q⟩ => ⟨I1.kIn, ?_⟩) he hpl
  have hl : ∀ a : Addr, (Value.ref a :: us).length = ps.length := fun a => by
    have w := F.len _ _ _ _ (q CF.ok (s1.heap.objs.size + 1) s1.heap.objs.size (I1.hok.fresh (Nat.le_succ _)) (I1.hok.fresh (Nat.le_refl _)) (Nat.ne_of_lt (Nat.lt_succ_self _)))
    have l := r.length
    simp only [List.length_cons] at w ⊢
    omega
  have b : ∀ (s2 : Shared) (a : Addr), X.K.In s2.heap → BindsTo s2 fd ⟨Value.ref a :: us, ([] : List Str).zip ([] : List Value)⟩ (ps.zip (Value.ref a :: us)) := fun s2 a ki => by
    have z := hb s2 (Value.ref a :: us) ki (by rw [List.append_nil]; exact hl a)
    rw [List.append_nil] at z
    exact z
  exact run_mkS (ks := []) (ws := []) (zs := []) (g := fun us _ => us) (gV := fun vs _ => vs) hM F hr (fun s2 ki => b s2 _ ki) (fun _ => .cons rfl r) (hx σ) I1 (q CF.ok) b
theorem z_makeK {CX : CXT} {ks : List Str} {kws : List Keyword} {ms : List Cst} {sel : List (Bool × Nat)} {nk : Nat} (CF : ClsF X.K X.mg c x gs) (M : MkrK CX X.prog X.w X.K X.mg X.base k (c.cls x) ps sp n ks ms sel) (hx : ∀ σ, PassesAt CX X σ (WE W σ)) (hr : Room (k + 1) X.A) (hg : Gl X x) (ha : PA X (e :: es) t) (hkw : PK X kws tk)
    (hnk : ks.length = nk := by rfl) (hall : (backToKw pos (keywordEach kws X.env)).all (·.1.isSome) = true := by rfl) (hks : (backToKw pos (keywordEach kws X.env)).filterMap (·.1) = ks := by rfl) (hdb : (x == ("__debug__" : Str)) = false := by decide)
    (he : starEach (e :: es) X.env = (false, eval e X.env) :: starEach es X.env := by rfl) (hpl : ((backTo pos (starEach (e :: es) X.env)).any (·.1) || (backToKw pos (keywordEach kws X.env)).any (·.1.isNone)) = false := by rfl) :
    PE X (.Call (.Name x p) (e :: es) kws pos) (tMkK X.K c x gs n nk ms sel sp W t tk) := by
  subst hnk
  obtain ⟨f, fd, g, ds, hM, hds, hb, F⟩ := M.ex
  refine ⟨fun pins s σ H Q I h => ?_⟩
  refine wpAny_Call_Name_kw (ld_glob I hg CF.mg ?_ hdb)
  refine PySem.W.callWith_KW (h₀ := X.base) I.ok.mod.kin hM.kp hall (thn (ha.run pos pins s σ H _ I h) fun us s1 ⟨vs, H1, I1, r, q⟩ => ?_) hpl he
  refine thn (hkw.run pos pins s1 σ H1 _ I1 q) fun ws s2 ⟨zs, H2, I2, rz, l1, l2, q2⟩ => ⟨I2.kIn, ?_⟩
  rw [hks]
  have n1 : ∀ a : Addr, (Value.ref a :: us).length = n + 1 := fun a => by rw [List.length_cons, ← r.length, l1]
  exact run_mkS (g := g) (gV := fun vs zs => gSel sel vs ds zs) hM F hr (fun s3 ki => hb.to s3 _ ws ki (n1 _) (rz.length.symm.trans l2)) (fun a => hb.rel (.cons rfl r) rz) (hx σ) I2 (q2 CF.ok ds hds) (fun s3 a ki => hb.to s3 _ ws ki (n1 _) (rz.length.symm.trans l2))
theorem z_raise {j : Nat} {p2 pos' : Pos} (hc : X.calm = true) (E : ExcF X.K X.mg c x) (tk : Takes X W) (hg : Gl X x) (hdb : (x == ("__debug__" : Str)) = false := by decide) : PS X (.Raise (some (.Call (.Name x p) [.Constant (.str m) j p2] [] pos)) none pos') (sRaise c x W) :=
  ps_raise hc tk (pmk_own F.excBase_ValueError E.q E.mg E.kp (raises_own E.sb E.ty) hg hdb)
theorem z_try {x : Str} {ys : List Str} {body suite : List Stmt} {b₀ : Stmt} {np pos pos' : Pos} {tb : WX → TS} {ts : TS} {Wo : WX} (hs : X.stack = X.env :: X.outer) (hf : X.env.frame = some X.env.locals) (hg : Gl X x) (hm : X.mg x = some (.ref (c.cls x))) (he : ∀ y ∈ ys, PySem.W.exmOne X.K (.ref (c.cls y)) (.ref (c.cls x)) = some (SUB y x)) (tk : Takes X Wo)
    (hb : ∀ (W : WX) (pn : List (Addr × Obj)) (xe : Value → Shared → Prop), Takes (X.tr pn xe) W → PassesOwn (model X.prog X.w) X.A X.env xe → PSs (X.tr pn xe) body (tb W))
    (hsu : ∀ (a : Addr) (oe : Obj) (cls : Value) (d : Option Addr) (pn : List (Addr × Obj)), Zc cls d oe → (∃ vs, oe.data = .fields vs) → PSs (X.suite a ((a, oe) :: pn)) (b₀ :: suite) ts) (hdb : (x == ("__debug__" : Str)) = false := by decide) :
    PS X (.Try body [.ExceptHandler (some (.Name x np)) none (b₀ :: suite) pos'] [] [] pos) (sTry X.K c x ys tb ts Wo) :=
  ⟨fun pins s σ H D I h => (ps_try_only (ts := fun _ _ _ => ts) hs hf ⟨hg, hdb, .inl hm⟩ tk hb hsu).run pins s σ H D I (h he)⟩
end
section
variable {K : PySem.W.Frag} {c : CEnv} {x y m : Str} {gs : List Str} {H : Hp} {Q : VK} {σ : L2.St} {t tk : TA} {ta : TE} {sp : Sp} {W : WX} {D : Ends}
theorem z_calS (k : t σ H fun vs H1 => sp vs H1 Q (WE W σ)) : tCallS sp (WE W) t σ H Q := k
theorem z_mkX (k : t σ H fun vs H1 => ClsOk K c x gs → ∀ p dx, H1 p = none → H1 dx = none → dx ≠ p → sp (.ref p :: vs) (upd (upd H1 dx (.own p)) p (.ins (c.cls x) dx [])) (fun v H2 => v = .non ∧ Q (.ref p) H2) (WE W σ)) : tMkX K c x gs sp W t σ H Q := k
theorem z_mkK {n nk : Nat} {ms : List Cst} {sel : List (Bool × Nat)} (k : t σ H fun vs H1 => tk σ H1 fun zs H2 => vs.length = n ∧ zs.length = nk ∧ (ClsOk K c x gs → ∀ ds, All2 (Cst.Is K) ms ds → ∀ p dx, H2 p = none → H2 dx = none → dx ≠ p →
  sp (gSel sel (.ref p :: vs) ds zs) (upd (upd H2 dx (.own p)) p (.ins (c.cls x) dx [])) (fun v H3 => v = .non ∧ Q (.ref p) H3) (WE W σ))) : tMkK K c x gs n nk ms sel sp W t tk σ H Q := k
theorem z_mtX (k : ta σ H fun v H1 => ∃ a dx fs, v = .ref a ∧ H1 a = some (.ins (c.cls x) dx fs) ∧ fs.lookup m = none ∧ t σ H1 fun vs H2 => sp (v :: vs) H2 Q (WE W σ)) : tMtX c x m sp W ta t σ H Q := k
theorem z_rse (k : W (.ref (c.cls x)) none σ H) : sRaise c x W D σ H := k
theorem z_tr {ys : List Str} {tb : WX → TS} {ts : TS} {Wo : WX} (k : (∀ y ∈ ys, PySem.W.exmOne K (.ref (c.cls y)) (.ref (c.cls x)) = some (SUB y x)) → tb (wOnly K (.ref (c.cls x)) (fun _ _ _ => ts) Wo D) D σ H) : sTry K c x ys tb ts Wo D σ H := k
/-- an exception of the clause's class -/
theorem z_caught {ts : TS} {Wo : WX} {d : Option Addr} (h : PySem.W.exmOne K (.ref (c.cls y)) (.ref (c.cls x)) = some (SUB y x)) (e : SUB y x = true) (k : ts D σ H) : wOnly K (.ref (c.cls x)) (fun _ _ _ => ts) Wo D (.ref (c.cls y)) d σ H :=
  ⟨true, by rw [h, e], fun _ _ _ => k, fun z => nomatch z⟩
theorem cst0 {ds : List V} (h : All2 (Cst.Is K) [] ds) : ds = [] := by cases h; rfl
theorem cstE {ms : List Cst} {ds : List V} (h : All2 (Cst.Is K) (.e :: ms) ds) : ∃ T ds', ds = .ref T :: ds' ∧ (∀ H, SqT K H T []) ∧ All2 (Cst.Is K) ms ds' := by
  cases h with
  | cons h t => obtain ⟨T, rfl, e⟩ := h; exact ⟨T, _, rfl, e, t⟩
theorem cstV {v : V} {ms : List Cst} {ds : List V} (h : All2 (Cst.Is K) (.v v :: ms) ds) : ∃ ds', ds = v :: ds' ∧ All2 (Cst.Is K) ms ds' := by
  cases h with
  | cons h t => cases h; exact ⟨_, rfl, t⟩
end
section
variable {K : PySem.W.Frag} {H : Hp} {σ : L2.St}
theorem z_gTup3 {t' : Addr} {a b d : V} {u v w : Nat} {P : L2.St → Hp → Prop} (h : SqT K H t' [a, b, d]) (k : P (((σ.set u (some a)).set v (some b)).set w (some d)) H) : gTup K 3 (gCons (gName u) (gCons (gName v) (gCons (gName w) gNil))) (.ref t') σ H P :=
  ⟨t', [a, b, d], rfl, h, rfl, a, [b, d], rfl, b, [d], rfl, d, [], rfl, rfl, k⟩
end
theorem dec_rn {a : Addr} : decide (V.ref a = V.non) = false := decide_eq_false (fun z => by cases z)
theorem dec_in {a : Int} : decide (V.int a = V.non) = false := decide_eq_false (fun z => by cases z)
theorem dec_sn {a : Str} : decide (V.str a = V.non) = false := decide_eq_false (fun z => by cases z)
theorem dec_bn {a : Bool} : decide (V.bl a = V.non) = false := decide_eq_false (fun z => by cases z)
/-! constants: tuples of the module -/
def tCstT (K : PySem.W.Frag) (xs : List V) : TE := fun σ H Q => ∀ T, (∀ H, SqT K H T xs) → Q (.ref T) H
theorem z_gtup {X : Cx} {x : Str} {xs : List V} {pos : Pos} (hm : ∃ T, X.mg x = some (.ref T) ∧ ∀ H, SqT X.K H T xs) (hg : Gl X x) (hd : (x == ("__debug__" : Str)) = false := by decide) : PE X (.Name x pos) (tCstT X.K xs) := by
  obtain ⟨T, hm, hs⟩ := hm
  exact ⟨fun pins s σ H Q I h => ld_glob I hg hm ⟨.ref T, H, I, rfl, h T hs⟩ hd⟩
theorem z_cstT {K : PySem.W.Frag} {xs : List V} {σ : L2.St} {H : Hp} {Q : VK} (k : ∀ T, (∀ H, SqT K H T xs) → Q (.ref T) H) : tCstT K xs σ H Q := k
theorem sqT_lit {K : PySem.W.Frag} {T : Addr} {dd : Option Addr} {its : List Value} {n : Nat} {sl : Array (Option Value)} {xs : List V} (l : K.lookup T = some ⟨.type "tuple", dd, .seq its.toArray n, sl⟩) (h : Vals xs its) (hs : xs.length ≤ 1000) : ∀ H, SqT K H T xs := fun H =>
  .inr ⟨_, _, _, l, rfl, rfl, by have := h.length; simp; exact Nat.le_trans (by omega : its.length ≤ 1000) (by decide), by simpa using h⟩
/-- an error of the class y, as «except x» asks -/
theorem exm_of {K : PySem.W.Frag} {C D : Addr} {b : Bool} (h1 : PySem.W.subIn K (.ref C) (.type "BaseException") = some true) (h2 : PySem.W.isClsIn K C = true) (h3 : PySem.W.typeIn K (.ref C) = some (.type "type")) (h4 : PySem.W.subIn K (.ref D) (.ref C) = some b) :
    PySem.W.exmOne K (.ref D) (.ref C) = some b := by
  have e1 : (PySem.W.subIn K (.ref C) (.type "BaseException") == some true) = true := by rw [h1] <;> rfl
  have e2 : ((PySem.W.clsIn K C).isSome && PySem.W.typeIn K (.ref C) == some (.type "type")) = true := by
    have q : (PySem.W.clsIn K C).isSome = true := h2
    rw [q, h3] <;> rfl
  show (if (PySem.W.subIn K (.ref C) (.type "BaseException") == some true) = true then (if ((PySem.W.clsIn K C).isSome && PySem.W.typeIn K (.ref C) == some (.type "type")) = true then PySem.W.subIn K (.ref D) (.ref C) else none) else none) = some b
  rw [if_pos e1, if_pos e2]
  exact h4

local macro_rules | `(tactic| walk_at "z") => `(tactic| with_reducible first
  | refine z_calS ?_ | refine z_mkX ?_ | refine z_mkK ?_ | refine z_mtX ?_ | refine z_rse ?_ | (refine z_tr ?_; intro _) | (refine z_cstT ?_; intro _ _) | refine z_forEA ?_ | refine z_lenSet ?_)
local macro_rules | `(tactic| walk_at "zy") => `(tactic| repeat (first | walk_at "z" | walk_at "zd" | rw [decide_eq_true rfl] | rw [dec_rn] | rw [dec_in] | rw [dec_sn] | rw [dec_bn]))

/-! dicts of the module with texts as keys; texts sign by sign -/
/-- a constant: a value, or a tuple -/
inductive DV where
  | v (x : V)
  | t (xs : List V)
def DV.Is (K : PySem.W.Frag) : DV → V → Prop
  | .v x, u => u = x
  | .t xs, u => ∃ T, u = .ref T ∧ ∀ H, SqT K H T xs
structure KD (K : PySem.W.Frag) (w : World) (mg : Str → Option Value) (x : Str) (l : List (Str × DV)) : Prop where
  ex : ∃ (d : Addr) (es : Array DictEntry) (n : Nat), mg x = some (.ref d) ∧ KDict K w d es n ∧ ∀ z : Str, (l.lookup z = none → PySem.W.nsIn K d z = some none) ∧ ∀ dv, l.lookup z = some dv → ∃ u v, PySem.W.nsIn K d z = some (some u) ∧ RelV v u ∧ dv.Is K v
def tKin (l : List (Str × DV)) (ta : TE) : TE := fun σ H Q => ta σ H fun x H1 => ∃ z, x = .str z ∧ Q (.bl (l.lookup z).isSome) H1
def tKout (l : List (Str × DV)) (ta : TE) : TE := fun σ H Q => ta σ H fun x H1 => ∃ z, x = .str z ∧ Q (.bl (!(l.lookup z).isSome)) H1
def tKix (K : PySem.W.Frag) (l : List (Str × DV)) (ta : TE) : TE := fun σ H Q => ta σ H fun x H1 => ∃ z dv, x = .str z ∧ l.lookup z = some dv ∧ ∀ v, dv.Is K v → Q v H1
section
variable {X : Cx} {x : Str} {l : List (Str × DV)} {p pos : Pos} {e : Expr} {te : TE}
theorem kd_get {K : PySem.W.Frag} {d : Addr} (h : ∀ z : Str, (l.lookup z = none → PySem.W.nsIn K d z = some none) ∧ ∀ dv, l.lookup z = some dv → ∃ u v, PySem.W.nsIn K d z = some (some u) ∧ RelV v u ∧ dv.Is K v) (z : Str) : ∃ r, PySem.W.nsIn K d z = some r ∧ r.isSome = (l.lookup z).isSome := by
  cases q : l.lookup z with
  | none => exact ⟨none, (h z).1 q, rfl⟩
  | some dv => obtain ⟨u, _, e, _⟩ := (h z).2 dv q; exact ⟨some u, e, rfl⟩
theorem kin_eq {d : Addr} {σ : L2.St} {H : Hp} {Q : VK} {K : PySem.W.Frag} (hz : ∀ z : Str, (l.lookup z = none → PySem.W.nsIn K d z = some none) ∧ ∀ dv, l.lookup z = some dv → ∃ u v, PySem.W.nsIn K d z = some (some u) ∧ RelV v u ∧ dv.Is K v) (h : tKin l te σ H Q) :
    tOp (fun x y H Q => ∃ (z : Str) (r : Option Value), x = .str z ∧ y = .ref d ∧ PySem.W.nsIn K d z = some r ∧ Q (.bl r.isSome) H) te (tC (.ref d)) σ H Q := by
  have q : (fun (y : V) (H1 : Hp) => ∃ z, y = .str z ∧ Q (.bl (l.lookup z).isSome) H1) = fun y H1 => ∃ (z : Str) (r : Option Value), y = .str z ∧ V.ref d = .ref d ∧ PySem.W.nsIn K d z = some r ∧ Q (.bl r.isSome) H1 := by
    funext y H1
    refine propext ⟨fun ⟨z, ey, q⟩ => ?_, fun ⟨z, r, ey, _, er, q⟩ => ?_⟩
    · obtain ⟨r, er, es⟩ := kd_get hz z
      exact ⟨z, r, ey, rfl, er, by rw [es]; exact q⟩
    · obtain ⟨r', er', es⟩ := kd_get hz z
      rw [er] at er'; cases er'
      exact ⟨z, ey, by rw [← es]; exact q⟩
  show te σ H _
  exact (congrArg (te σ H) q) ▸ h
theorem kout_eq {d : Addr} {σ : L2.St} {H : Hp} {Q : VK} {K : PySem.W.Frag} (hz : ∀ z : Str, (l.lookup z = none → PySem.W.nsIn K d z = some none) ∧ ∀ dv, l.lookup z = some dv → ∃ u v, PySem.W.nsIn K d z = some (some u) ∧ RelV v u ∧ dv.Is K v) (h : tKout l te σ H Q) :
    tOp (fun x y H Q => ∃ (z : Str) (r : Option Value), x = .str z ∧ y = .ref d ∧ PySem.W.nsIn K d z = some r ∧ Q (.bl (!r.isSome)) H) te (tC (.ref d)) σ H Q := by
  have q : (fun (y : V) (H1 : Hp) => ∃ z, y = .str z ∧ Q (.bl (!(l.lookup z).isSome)) H1) = fun y H1 => ∃ (z : Str) (r : Option Value), y = .str z ∧ V.ref d = .ref d ∧ PySem.W.nsIn K d z = some r ∧ Q (.bl (!r.isSome)) H1 := by
    funext y H1
    refine propext ⟨fun ⟨z, ey, q⟩ => ?_, fun ⟨z, r, ey, _, er, q⟩ => ?_⟩
    · obtain ⟨r, er, es⟩ := kd_get hz z
      exact ⟨z, r, ey, rfl, er, by rw [es]; exact q⟩
    · obtain ⟨r', er', es⟩ := kd_get hz z
      rw [er] at er'; cases er'
      exact ⟨z, ey, by rw [← es]; exact q⟩
  show te σ H _
  exact (congrArg (te σ H) q) ▸ h
theorem z_kin (D : KD X.K X.w X.mg x l) (he : PE X e te) (hg : Gl X x) (hd : (x == ("__debug__" : Str)) = false := by decide) : PE X (.Compare e [.In] [.Name x p] pos) (tKin l te) := by
  obtain ⟨d, es, n, hm, kd, hz⟩ := D.ex
  have a := pe_cmpR (pos := pos) (op_in_kd kd) he (pe_glob (v := .ref d) (pos := p) hg hm rfl hd) (by rfl)
  exact ⟨fun pins s σ H Q I h => a.run pins s σ H Q I (kin_eq hz h)⟩
theorem z_kout (D : KD X.K X.w X.mg x l) (he : PE X e te) (hg : Gl X x) (hd : (x == ("__debug__" : Str)) = false := by decide) : PE X (.Compare e [.NotIn] [.Name x p] pos) (tKout l te) := by
  obtain ⟨d, es, n, hm, kd, hz⟩ := D.ex
  have a := pe_cmpR (pos := pos) (op_notIn_kd kd) he (pe_glob (v := .ref d) (pos := p) hg hm rfl hd) (by rfl)
  exact ⟨fun pins s σ H Q I h => a.run pins s σ H Q I (kout_eq hz h)⟩
theorem z_kinP (D : KD X.K X.w X.mg x l) (he : PE X e te) (hg : Gl X x) (hd : (x == ("__debug__" : Str)) = false := by decide) : PT X (.Compare e [.In] [.Name x p] pos) (tTest (tKin l te)) := by
  obtain ⟨d, es, n, hm, kd, hz⟩ := D.ex
  have a := pt_cmpR (pos := pos) (op_in_kd kd) he (pe_glob (v := .ref d) (pos := p) hg hm rfl hd) (by rfl)
  exact ⟨fun pins s σ H Q I h => a.run pins s σ H Q I (kin_eq hz h)⟩
theorem z_koutP (D : KD X.K X.w X.mg x l) (he : PE X e te) (hg : Gl X x) (hd : (x == ("__debug__" : Str)) = false := by decide) : PT X (.Compare e [.NotIn] [.Name x p] pos) (tTest (tKout l te)) := by
  obtain ⟨d, es, n, hm, kd, hz⟩ := D.ex
  have a := pt_cmpR (pos := pos) (op_notIn_kd kd) he (pe_glob (v := .ref d) (pos := p) hg hm rfl hd) (by rfl)
  exact ⟨fun pins s σ H Q I h => a.run pins s σ H Q I (kout_eq hz h)⟩
theorem ix_kd {d : Addr} {es : Array DictEntry} {n : Nat} (D : KDict X.K X.w d es n) : IxR X (fun x y H Q => ∃ (z : Str) (u0 : Value) (v0 : V), x = .ref d ∧ y = .str z ∧ PySem.W.nsIn X.K d z = some (some u0) ∧ RelV v0 u0 ∧ Q v0 H) := by
  intro value slice pins s σ H x y v u Q I rx ry h hs
  have ex : x = .ref d := by obtain ⟨_, _, _, e, _⟩ := h; exact e
  have ev : v = .ref d := by subst ex; exact rx
  refine PyProof.Rows.tail_any (ev ▸ kd_type D I) PySem.F.slot_dict_getitem.lookup (op_item_kd D pins s σ H x y v u Q I rx ry h) hs
theorem z_kix (D : KD X.K X.w X.mg x l) (he : PE X e te) (hg : Gl X x) (hs : PlainIx e := by exact fun _ _ => rfl) (hd : (x == ("__debug__" : Str)) = false := by decide) : PE X (.Subscript (.Name x p) e pos) (tKix X.K l te) := by
  obtain ⟨d, es, n, hm, kd, hz⟩ := D.ex
  refine ⟨fun pins s σ H Q I h => ?_⟩
  have q : (fun (y : V) (H1 : Hp) => ∃ z dv, y = .str z ∧ l.lookup z = some dv ∧ ∀ v, dv.Is X.K v → Q v H1) = fun y H1 => V.ref d = .ref d ∧ ∃ z dv, y = .str z ∧ l.lookup z = some dv ∧ ∀ v, dv.Is X.K v → Q v H1 := by
    funext y H1
    exact propext ⟨fun z => ⟨rfl, z⟩, fun z => z.2⟩
  have h2 : te σ H fun y H1 => V.ref d = .ref d ∧ ∃ z dv, y = .str z ∧ l.lookup z = some dv ∧ ∀ v, dv.Is X.K v → Q v H1 := (congrArg (te σ H) q) ▸ h
  refine PyProof.Rows.Subscript_ (binT (ta := tC (.ref d)) (tb := te) (pe_glob (v := .ref d) (pos := p) hg hm rfl hd) he I (R := fun x y H1 => x = V.ref d ∧ ∃ z dv, y = .str z ∧ l.lookup z = some dv ∧ ∀ v, dv.Is X.K v → Q v H1) h2 fun v u s2 x y H2 I2 rx ry q => ?_)
  obtain ⟨rfl, z, dv, ey, el, q⟩ := q
  obtain ⟨w, w', en, r, i⟩ := (hz z).2 dv el
  exact ix_kd kd _ _ pins s2 σ H2 _ _ v u Q I2 rx ry ⟨z, w, w', rfl, ey, en, r, q w' i⟩ (hs _ _)
end
/-! what the top has written of such a dict -/
theorem find_lit {K : PySem.W.Frag} {es : List DictEntry} {l : List (Str × DV)} (r : All2 (fun (e : DictEntry) (kv : Str × DV) => (∃ t, e.key = .str kv.1 t) ∧ ∃ v, RelV v e.val ∧ kv.2.Is K v) es l) (z : Str) :
    es.any (·.refKey) = false ∧ (l.lookup z = none → es.find? (·.key.isStr z) = none) ∧ ∀ dv, l.lookup z = some dv → ∃ e v, es.find? (·.key.isStr z) = some e ∧ RelV v e.val ∧ dv.Is K v := by
  induction r with
  | nil => exact ⟨rfl, fun _ => rfl, fun dv h => by cases h⟩
  | @cons e kv es l h _ ih =>
    obtain ⟨⟨t, ek⟩, v, rv, iv⟩ := h
    obtain ⟨k, dv0⟩ := kv
    have b : e.key.isStr z = (z == k) := by
      rw [ek]
      first
        | rfl
        | (rw [Bool.eq_iff_iff]; simp [Value.isStr]; exact ⟨fun h => h.symm, fun h => h.symm⟩)
        | (simp [Value.isStr, eq_comm])
    refine ⟨by rw [List.any_cons, ih.1, Bool.or_false]; unfold DictEntry.refKey; rw [ek], ?_, ?_⟩
    · intro h
      rw [List.lookup_cons] at h
      rw [List.find?_cons, b]
      cases q : z == k with
      | true => rw [q] at h; cases h
      | false => rw [q] at h; exact ih.2.1 h
    · intro dv h
      rw [List.lookup_cons] at h
      rw [List.find?_cons, b]
      cases q : z == k with
      | true => rw [q] at h; cases h; exact ⟨e, v, rfl, rv, iv⟩
      | false => rw [q] at h; exact ih.2.2 dv h
theorem kd_of {K : PySem.W.Frag} {w : World} {mg : Str → Option Value} {x : Str} {d : Addr} {es : List DictEntry} {n : Nat} {l : List (Str × DV)} (hm : mg x = some (.ref d)) (at_ : K.lookup d = some ⟨.type "dict", none, .dict es.toArray n, #[]⟩) (lit : PySem.W.KeysLit w.params es) (low : (d == sysModules) = false)
    (r : All2 (fun (e : DictEntry) (kv : Str × DV) => (∃ t, e.key = .str kv.1 t) ∧ ∃ v, RelV v e.val ∧ kv.2.Is K v) es l) : KD K w mg x l := by
  refine ⟨d, es.toArray, n, hm, ⟨at_, by simpa using lit, low⟩, fun z => ?_⟩
  obtain ⟨h1, h2, h3⟩ := find_lit r z
  unfold PySem.W.nsIn
  rw [at_]
  dsimp only
  refine ⟨fun q => ?_, fun dv q => ?_⟩
  · have e := h2 q
    simp only [e, h1]
    rfl
  · obtain ⟨e, v, e1, rv, iv⟩ := h3 dv q
    refine ⟨e.val, v, ?_, rv, iv⟩
    simp only [e1]
/-! steps -/
section
variable {K : PySem.W.Frag} {l : List (Str × DV)} {ta te : TE} {σ : L2.St} {H : Hp} {Q : VK} {g : TG} {tb : TS} {D : Ends} {x : Str} {b : Bool}
theorem z_kinT (k : ta σ H fun x H1 => ∃ z, x = .str z ∧ Q (.bl (l.lookup z).isSome) H1) : tKin l ta σ H Q := k
theorem z_koutT (k : ta σ H fun x H1 => ∃ z, x = .str z ∧ Q (.bl (!(l.lookup z).isSome)) H1) : tKout l ta σ H Q := k
theorem z_kixT (k : ta σ H fun x H1 => ∃ z dv, x = .str z ∧ l.lookup z = some dv ∧ ∀ v, dv.Is K v → Q v H1) : tKix K l ta σ H Q := k
theorem z_kst {P : Str → Prop} {x : Str} (k : P x) : ∃ z, V.str x = .str z ∧ P z := ⟨x, rfl, k⟩
def zForTx (g : TG) (tb : TS) (D : Ends) (σ : L2.St) (v : V) (H1 : Hp) : Prop := ∃ x, v = .str x ∧ ∃ W : Nat → Nat → L2.St → Hp → Prop, (∃ m, W 0 m σ H1) ∧ ∀ i m σ H, W i m σ H →
  ((Its x).stop i H ∧ D.nx σ H) ∨ ((Its x).go i H ∧ ∃ N : L2.St → Hp → Prop, (∀ σ' H', N σ' H' → ∃ m', m' < m ∧ W (i + 1) m' σ' H') ∧ ∀ y H', (Its x).yld i H y H' → g y σ H' fun σ2 H2 => tb { D with nx := N, ct := N, bk := D.nx } σ2 H2)
theorem z_forTx (k : te σ H fun v H1 => zForTx g tb D σ v H1) : tFor (iStr te) g tb D σ H := k
/-- over the signs of a text -/
theorem z_txt {u : Nat} (Pv : Nat → L2.St → Hp → Prop) (h0 : Pv 0 σ H) (hs : ∀ i c σ' H', x.cps[i]? = some c → Pv i σ' H' → tb { D with nx := Pv (i + 1), ct := Pv (i + 1), bk := D.nx } (σ'.set u (some (.str ⟨#[c]⟩))) H')
    (hd : ∀ σ' H', Pv x.cps.size σ' H' → D.nx σ' H') : zForTx (gName u) tb D σ (.str x) H := by
  refine ⟨x, rfl, fun i m σ H => m = x.cps.size - i ∧ i ≤ x.cps.size ∧ Pv i σ H, ⟨_, rfl, Nat.zero_le _, h0⟩, ?_⟩
  rintro i m σ' H' ⟨rfl, hi, p⟩
  by_cases lt : i < x.cps.size
  · refine .inr ⟨lt, Pv (i + 1), fun σ2 H2 p' => ⟨_, by omega, rfl, by omega, p'⟩, ?_⟩
    rintro y H2 ⟨rfl, c, hc, rfl⟩
    exact hs i c σ' H2 hc p
  · have e : i = x.cps.size := by omega
    subst e
    exact .inl ⟨Nat.le_refl _, hd σ' H' p⟩
/-- the place of a flat value in a list -/
theorem z_index {a : Addr} {ys : List V} {y z : V} {j : Nat} (h : SqL K H a ys) (fy : flatV y = true) (fys : ys.all flatV = true) (hz : ys[j]? = some z) (e : eqV z y = true) (no : ∀ (m : Nat) (z' : V), m < j → ys[m]? = some z' → eqV z' y = false) (k : Q (.int (j : Nat)) H) : rIndex K (.ref a) [y] H Q :=
  ⟨a, ys, y, j, z, rfl, rfl, h, fy, fys, hz, e, no, k⟩
end
/-! a try of several clauses -/
def hMany (c : CEnv) (l : List (Str × TS)) : List (Value × (Addr → Value → Option Addr → TS)) := l.map fun z => (.ref (c.cls z.1), fun _ _ _ => z.2)
def sTryM (K : PySem.W.Frag) (c : CEnv) (l : List (Str × TS)) (ys : List Str) (tb : WX → TS) (Wo : WX) : TS := fun D σ H =>
  (∀ x ∈ l.map (·.1), ∀ y ∈ ys, PySem.W.exmOne K (.ref (c.cls y)) (.ref (c.cls x)) = some (SUB y x)) → tb (wMany K Wo D (hMany c l)) D σ H
theorem z_tryM {X : Cx} {c : CEnv} {l : List (Str × TS)} {ys : List Str} {body : List Stmt} {h₀ : ExceptHandler} {hds : List ExceptHandler} {pos : Pos} {tb : WX → TS} {Wo : WX} (hs : X.stack = X.env :: X.outer) (hf : X.env.frame = some X.env.locals)
    (he : ∀ x ∈ l.map (·.1), ∀ y ∈ ys, PySem.W.exmOne X.K (.ref (c.cls y)) (.ref (c.cls x)) = some (SUB y x)) (tk : Takes X Wo)
    (hb : ∀ (W : WX) (pn : List (Addr × Obj)) (xe : Value → Shared → Prop), Takes (X.tr pn xe) W → PassesOwn (model X.prog X.w) X.A X.env xe → PSs (X.tr pn xe) body (tb W)) (hh : HdsOk X (h₀ :: hds) (hMany c l)) : PS X (.Try body (h₀ :: hds) [] [] pos) (sTryM X.K c l ys tb Wo) :=
  ⟨fun pins s σ H D I h => (ps_try_many hs hf tk hb hh).run pins s σ H D I (h he)⟩
theorem z_trM {K : PySem.W.Frag} {c : CEnv} {l : List (Str × TS)} {ys : List Str} {tb : WX → TS} {Wo : WX} {D : Ends} {σ : L2.St} {H : Hp} (k : (∀ x ∈ l.map (·.1), ∀ y ∈ ys, PySem.W.exmOne K (.ref (c.cls y)) (.ref (c.cls x)) = some (SUB y x)) → tb (wMany K Wo D (hMany c l)) D σ H) : sTryM K c l ys tb Wo D σ H := k
theorem z_caughtM {K : PySem.W.Frag} {c : CEnv} {x y : Str} {ts : TS} {l : List (Str × TS)} {Wo : WX} {D : Ends} {σ : L2.St} {H : Hp} {d : Option Addr} (h : PySem.W.exmOne K (.ref (c.cls y)) (.ref (c.cls x)) = some (SUB y x)) (e : SUB y x = true) (k : ts D σ H) : wMany K Wo D (hMany c ((x, ts) :: l)) (.ref (c.cls y)) d σ H :=
  ⟨true, by rw [h, e], fun _ _ _ => k, fun z => nomatch z⟩
theorem z_asgG {K : PySem.W.Frag} {te : TE} {n : Nat} {gs : TGs} {D : Ends} {σ : L2.St} {H : Hp} (k : te σ H fun x H1 => gTup K n gs x σ H1 D.nx) : tAsg te (gTup K n gs) D σ H := k
/-! ord; kinds of flat values; signs in a comprehension -/
def uOrd : List V → Hp → VK → Prop := fun xs H Q => ∃ x, xs = [.str x] ∧ x.length = 1 ∧ Q (.int (x.cps.getD 0 0 : Nat)) H
theorem call_uOrd {X : Cx} : CallR X (.builtin "ord") uOrd := call_ord
theorem z_ord {c : Nat} {H : Hp} {Q : VK} (k : Q (.int (c : Nat)) H) : uOrd [.str ⟨#[c]⟩] H Q := ⟨_, rfl, rfl, k⟩
theorem z_isss {K : PySem.W.Frag} {H : Hp} {Q : VK} {x : Str} (k : Q (.bl true) H) : uIsi K [.str x, .ty "str"] H Q := ⟨_, _, true, .ty _, .base (.str x), rfl, k⟩
theorem z_issb {K : PySem.W.Frag} {H : Hp} {Q : VK} {x : Str} (k : Q (.bl false) H) : uIsi K [.str x, .ty "bool"] H Q := ⟨_, _, false, .ty _, .base (.str x), rfl, k⟩
theorem z_isis {K : PySem.W.Frag} {H : Hp} {Q : VK} {i : Int} (k : Q (.bl false) H) : uIsi K [.int i, .ty "str"] H Q := ⟨_, _, false, .ty _, .base (.int i), rfl, k⟩
theorem z_isbs {K : PySem.W.Frag} {H : Hp} {Q : VK} {b : Bool} (k : Q (.bl false) H) : uIsi K [.bl b, .ty "str"] H Q := ⟨_, _, false, .ty _, .base (.bl b), rfl, k⟩
theorem z_lenS {K : PySem.W.Frag} {H : Hp} {Q : VK} {x : Str} (h : x.length ≤ 100000) (k : Q (.int x.length) H) : uLen K [.str x] H Q := ⟨Nat.le_trans h (by decide), k⟩
def zLcTx (g : TG) (tt : TT) (te : TE) (vs : List Nat) (σ : L2.St) (v : V) (H1 : Hp) (Q : VK) : Prop := ∃ x, v = .str x ∧ ∀ C, H1 C = none → ∃ W : Nat → Nat → Hp → Prop, (∃ m, W 0 m (upd H1 C (.lst []))) ∧ ∀ i m H, W i m H →
  ((Its x).stop i H ∧ Q (.ref C) H) ∨ ((Its x).go i H ∧ ∃ Nx : Hp → Prop, (∀ H', Nx H' → ∃ m', m' < m ∧ W (i + 1) m' H') ∧ ∀ y H', (Its x).yld i H y H' → g y (wipe σ vs) H' fun σ2 H2 => wipe σ2 vs = wipe σ vs ∧ tt σ2 H2 fun b H3 =>
    if b = true then te σ2 H3 fun z H4 => ∃ acc, H4 C = some (.lst acc) ∧ acc.length < sizeLine ∧ Nx (upd H4 C (.lst (acc ++ [z]))) else Nx H3)
theorem z_lcTx {ti te : TE} {g : TG} {tt : TT} {vs : List Nat} {σ : L2.St} {H : Hp} {Q : VK} (k : ti σ H fun v H1 => zLcTx g tt te vs σ v H1 Q) : tLc (iStr ti) g tt te vs σ H Q := k
theorem z_lctx {x : Str} {u : Nat} {te : TE} {tt : TT} {vs : List Nat} {σ : L2.St} {H : Hp} {Q : VK} (Pv : Addr → Nat → Hp → Prop) (h0 : ∀ C, H C = none → Pv C 0 (upd H C (.lst [])))
    (hs : ∀ C i c H', H C = none → x.cps[i]? = some c → Pv C i H' → wipe ((wipe σ vs).set u (some (.str ⟨#[c]⟩))) vs = wipe σ vs ∧ tt ((wipe σ vs).set u (some (.str ⟨#[c]⟩))) H' fun b H3 =>
      if b = true then te ((wipe σ vs).set u (some (.str ⟨#[c]⟩))) H3 fun z H4 => ∃ acc, H4 C = some (.lst acc) ∧ acc.length < sizeLine ∧ Pv C (i + 1) (upd H4 C (.lst (acc ++ [z]))) else Pv C (i + 1) H3)
    (hd : ∀ C H', H C = none → Pv C x.cps.size H' → Q (.ref C) H') : zLcTx (gName u) tt te vs σ (.str x) H Q := by
  refine ⟨x, rfl, fun C hC => ⟨fun i m H => m = x.cps.size - i ∧ i ≤ x.cps.size ∧ Pv C i H, ⟨_, rfl, Nat.zero_le _, h0 C hC⟩, ?_⟩⟩
  rintro i m H' ⟨rfl, hi, p⟩
  by_cases lt : i < x.cps.size
  · refine .inr ⟨lt, Pv C (i + 1), fun H2 p' => ⟨_, by omega, rfl, by omega, p'⟩, ?_⟩
    rintro y H2 ⟨rfl, c, hc, rfl⟩
    exact hs C i c H2 hC hc p
  · have e : i = x.cps.size := by omega
    subst e
    exact .inl ⟨Nat.le_refl _, hd C H' hC p⟩

local macro_rules | `(tactic| walk_at "z") => `(tactic| with_reducible first
  | refine z_kinT ?_ | refine z_koutT ?_ | refine z_kixT ?_ | refine z_kst ?_ | refine z_forTx ?_ | refine z_asgG ?_ | (refine z_trM ?_; intro _) | refine z_ord ?_ | refine z_isss ?_ | refine z_issb ?_ | refine z_isis ?_ | refine z_isbs ?_ | refine z_lcTx ?_)

/-! ### in, not in of an own instance; methods that raise; raise with a value -/
def uInO (c : CEnv) (x : Str) (sp : Sp) : R2 := fun u v H Q => ∃ b dx fs, v = .ref b ∧ H b = some (.ins (c.cls x) dx fs) ∧ sp [.ref b, u] H (fun z H' => ∃ k, z = .bl k ∧ Q (.bl k) H') E0
def uOutO (c : CEnv) (x : Str) (sp : Sp) : R2 := fun u v H Q => ∃ b dx fs, v = .ref b ∧ H b = some (.ins (c.cls x) dx fs) ∧ sp [.ref b, u] H (fun z H' => ∃ k, z = .bl k ∧ Q (.bl (!k)) H') E0
section
variable {X : Cx} {c : CEnv} {k : Nat} {x m : Str} {ps gs : List Str} {sp : Sp} {W : WX} {p pos apos : Pos} {e o : Expr} {es : List Expr} {t tk : TA} {ta : TE}
theorem op_inO (CF : ClsF X.K X.mg c x gs) (M : Mth X.prog X.w X.K X.mg X.base k (c.cls x) "__contains__" ps sp) (hr : Room k X.A) : OpR X (compareOp .In) (uInO c x sp) := by
  intro pins s σ H u v y z Q I rx ry hq
  obtain ⟨f, fd, hM, hb, F⟩ := M.ex
  obtain ⟨b, dx, fs, rfl, ha, q⟩ := hq
  cases ry
  obtain ⟨mA, J, _⟩ := ins_get I.hok ha
  obtain ⟨od, J, _⟩ := J.look
  obtain ⟨m, hF⟩ := I.fr
  refine PySem.W.in_K hF I.ok.mod.kin J hM.at_ hM.fn ?_
  have r2 : Vals [V.ref b, u] [Value.ref b, y] := .cons rfl (.cons rx .nil)
  refine thn (run_fn (Q := fun z H' => ∃ k, z = .bl k ∧ Q (.bl k) H') (E := E0) (dvs := []) F hr hb .nil pass0 I r2 (by simpa using q)) fun w s' hw => ?_
  obtain ⟨zv, H', I', rz, kk, ez, q'⟩ := hw
  subst ez
  have rz2 : w = Value.bool kk := rz
  subst rz2
  exact wpAny_truthy_bool ⟨.bl kk, H', I', rfl, q'⟩
theorem op_outO (CF : ClsF X.K X.mg c x gs) (M : Mth X.prog X.w X.K X.mg X.base k (c.cls x) "__contains__" ps sp) (hr : Room k X.A) : OpR X (compareOp .NotIn) (uOutO c x sp) := by
  intro pins s σ H u v y z Q I rx ry hq
  obtain ⟨f, fd, hM, hb, F⟩ := M.ex
  obtain ⟨b, dx, fs, rfl, ha, q⟩ := hq
  cases ry
  obtain ⟨mA, J, _⟩ := ins_get I.hok ha
  obtain ⟨od, J, _⟩ := J.look
  obtain ⟨m, hF⟩ := I.fr
  refine PySem.W.notIn_K hF I.ok.mod.kin J hM.at_ hM.fn ?_
  have r2 : Vals [V.ref b, u] [Value.ref b, y] := .cons rfl (.cons rx .nil)
  refine thn (run_fn (Q := fun z H' => ∃ k, z = .bl k ∧ Q (.bl (!k)) H') (E := E0) (dvs := []) F hr hb .nil pass0 I r2 (by simpa using q)) fun w s' hw => ?_
  obtain ⟨zv, H', I', rz, kk, ez, q'⟩ := hw
  subst ez
  have rz2 : w = Value.bool kk := rz
  subst rz2
  exact wpAny_truthy_bool ⟨.bl (!kk), H', I', rfl, q'⟩
theorem z_methX {pl : Sem Bool} (he : PE X o ta) (CF : ClsF X.K X.mg c x gs) (M : MthX X.prog X.w X.K X.mg X.base k (c.cls x) m ps sp) (hx : ∀ σ, PassesAt (L2.CX X.prog X.w) X σ (WE W σ)) (hr : Room k X.A) (ha : PA X (e :: es) t)
    (hst : starEach (e :: es) X.env = (false, eval e X.env) :: starEach es X.env := by rfl) (hpl : (backTo pos (starEach es X.env)).any (·.1) = false := by rfl)
    (ht : eval (.Call (.Attribute o m apos) (e :: es) [] pos) X.env = (do
      let ov ← eval o X.env
      standAt apos.atName
      let (f, first) ← holding [ov] (getMethod ov m pl)
      callWith pos f first (backTo pos (starEach (e :: es) X.env)) (backToKw pos (keywordEach [] X.env))) := by rfl) : PE X (.Call (.Attribute o m apos) (e :: es) [] pos) (tMtX c x m sp W ta t) := by
  obtain ⟨f, fd, hM, hb, F⟩ := M.ex
  refine ⟨fun pins s σ H Q I h => ?_⟩
  refine PySem.W.methodCall_KW (pl := pl) (thn (he.run pins s σ H _ I h) fun u s1 ⟨x, H1, I1, rx, a, dx, fs, ex, ea, l, q⟩ => ?_) ht
  subst ex
  obtain rfl : u = Value.ref a := rx
  refine getmeth_ok I1 ea CF.ok.cl hM l ?_
  refine PySem.W.callWith_K (first := [.ref a]) (h₀ := X.base) I.ok.mod.kin hM.kp (thn (ha.run pos pins s1 σ H1 _ I1 q) fun us s2 ⟨vs, H2, I2, r, q2⟩ => ⟨I2.kIn, ?_⟩) hst hpl
  exact run_fnS (us := .ref a :: us) (vs := .ref a :: vs) F hr hb (hx σ) I2 (.cons rfl r) q2
theorem z_methX0 {pl : Sem Bool} (he : PE X o ta) (CF : ClsF X.K X.mg c x gs) (M : MthX X.prog X.w X.K X.mg X.base k (c.cls x) m ps sp) (hx : ∀ σ, PassesAt (L2.CX X.prog X.w) X σ (WE W σ)) (hr : Room k X.A)
    (ht : eval (.Call (.Attribute o m apos) [] [] pos) X.env = (do
      let ov ← eval o X.env
      standAt apos.atName
      let (f, first) ← holding [ov] (getMethod ov m pl)
      callWith pos f first (backTo pos (starEach [] X.env)) (backToKw pos (keywordEach [] X.env))) := by rfl) : PE X (.Call (.Attribute o m apos) [] [] pos) (tMtX c x m sp W ta tNil) := by
  obtain ⟨f, fd, hM, hb, F⟩ := M.ex
  refine ⟨fun pins s σ H Q I h => ?_⟩
  refine PySem.W.methodCall_KW (pl := pl) (thn (he.run pins s σ H _ I h) fun u s1 ⟨x, H1, I1, rx, a, dx, fs, ex, ea, l, q⟩ => ?_) ht
  subst ex
  obtain rfl : u = Value.ref a := rx
  refine getmeth_ok I1 ea CF.ok.cl hM l ?_
  exact PySem.W.callWith_K0 (first := [.ref a]) I1.kIn hM.kp (run_fnS (us := [.ref a]) (vs := [.ref a]) F hr hb (hx σ) I1 (.cons rfl .nil) q)
end
def sRaiseA (c : CEnv) (x : Str) (te : TE) (W : WX) : TS := fun _ σ H => te σ H fun _ H1 => W (.ref (c.cls x)) none σ H1
theorem z_raiseA {X : Cx} {c : CEnv} {x : Str} {W : WX} {e : Expr} {te : TE} {p pos pos' : Pos} (hc : X.calm = true) (E : ExcF X.K X.mg c x) (tk : Takes X W) (hg : Gl X x) (he : PE X e te) (hs : starEach [e] X.env = (false, eval e X.env) :: starEach [] X.env := by rfl) (hdb : (x == ("__debug__" : Str)) = false := by decide) : PS X (.Raise (some (.Call (.Name x p) [e] [] pos)) none pos') (sRaiseA c x te W) :=
  ps_raise hc tk (SkE.pmk_own1 F.excBase_ValueError E.q E.mg E.kp (raises_own E.sb E.ty) hg he hs hdb)
theorem z_rsa {c : CEnv} {x : Str} {te : TE} {W : WX} {D : Ends} {σ : L2.St} {H : Hp} (k : te σ H fun _ H1 => W (.ref (c.cls x)) none σ H1) : sRaiseA c x te W D σ H := k
/-- a flat value is equal to itself -/
theorem z_neSelf {K : PySem.W.Frag} {v : V} {H : Hp} {Q : VK} (h : flatV v = true) (k : Q (.bl false) H) : uNe K v v H Q := by
  cases v <;> first | (cases h; done) | skip
  · exact z_neN k
  · refine z_neB ?_; rw [decide_eq_true rfl]; exact k
  · refine z_ne ?_; rw [decide_eq_true rfl]; exact k
  · refine z_neS ?_; rw [decide_eq_true rfl]; exact k

local macro_rules | `(tactic| walk_at "z") => `(tactic| with_reducible first
  | refine z_rsa ?_)

/-! ### the root -/
def rootN : Nat → Nat
  | 0 => 0
  | n + 1 => if (rootN n + 1) * (rootN n + 1) ≤ n + 1 then rootN n + 1 else rootN n
theorem rootN_spec (n : Nat) : rootN n * rootN n ≤ n ∧ n < (rootN n + 1) * (rootN n + 1) := by
  induction n with
  | zero => exact ⟨Nat.le_refl _, by decide⟩
  | succ n ih =>
    obtain ⟨h1, h2⟩ := ih
    unfold rootN
    split
    · rename_i h
      refine ⟨h, ?_⟩
      generalize rootN n = r at *
      have e : (r + 1 + 1) * (r + 1 + 1) = (r + 1) * (r + 1) + 2 * (r + 1) + 1 := by
        simp only [Nat.add_mul, Nat.mul_add]; omega
      omega
    · rename_i h
      refine ⟨by omega, by omega⟩
def rootZ (n : Int) : Int := (rootN n.toNat : Nat)
theorem rootZ_nn (n : Int) : 0 ≤ rootZ n := Int.natCast_nonneg _
theorem rootZ_spec {n : Int} (h : 0 ≤ n) : rootZ n * rootZ n ≤ n ∧ n < (rootZ n + 1) * (rootZ n + 1) := by
  have s := rootN_spec n.toNat
  unfold rootZ
  generalize rootN n.toNat = r at *
  have e : ((n.toNat : Nat) : Int) = n := Int.toNat_of_nonneg h
  constructor
  · have := Int.ofNat_le.mpr s.1
    rw [← e]; push_cast at this ⊢; exact this
  · have := Int.ofNat_lt.mpr s.2
    rw [← e]; push_cast at this ⊢; exact this
theorem sq_lt {a b : Int} (h0 : 0 ≤ a) (hb : 0 ≤ b) (h : a * a < b * b) : a < b := by
  rcases Int.lt_or_le a b with h1 | h1
  · exact h1
  · have := Int.mul_le_mul h1 h1 hb h0
    omega
theorem rootZ_uniq {n r : Int} (h0 : 0 ≤ r) (h1 : r * r ≤ n) (h2 : n < (r + 1) * (r + 1)) : r = rootZ n := by
  have hn : 0 ≤ n := Int.le_trans (Int.mul_nonneg h0 h0) h1
  obtain ⟨s1, s2⟩ := rootZ_spec hn
  have s0 := rootZ_nn n
  have a := sq_lt h0 (by omega) (Int.lt_of_le_of_lt h1 s2)
  have b := sq_lt s0 (by omega) (Int.lt_of_le_of_lt s1 h2)
  omega
theorem rootZ_neg {n : Int} (h : n < 0) : rootZ n = 0 := by
  unfold rootZ
  rw [Int.toNat_of_nonpos (by omega)]; rfl
/-- a factor is short when its square is -/
theorem mul_sq {a n : Int} {b : Nat} (h0 : 0 ≤ a) (h : a * a ≤ n) (hn : n < 2 ^ b) (hb : 0 < b ∧ b ≤ 400000) : MulOk a a := by
  have h1 : a.natAbs < 2 ^ b := by
    have h3 : a ≤ a * a := by
      rcases Int.lt_or_le a 1 with z | z
      · have : a = 0 := by omega
        subst this; simp
      · have := Int.mul_le_mul_of_nonneg_right z h0
        omega
    have h4 : ((2 ^ b : Nat) : Int) = (2 : Int) ^ b := by simp
    omega
  exact .inr (wide_mul h1 h1 hb.1 hb.1 (by omega))
-- root(number): slots 0:number 1:low 2:high 3:middle
def T_root_b1 (K : PySem.W.Frag) : TS :=
    (tAsg (tOp uMul (tVar 2) (tC (.int 2))) (gName 2))
def T_root_b2 (K : PySem.W.Frag) : TS :=
    (tSeq (tAsg (tOp uDiv (tOp (uAdd K) (tVar 1) (tVar 2)) (tC (.int 2))) (gName 3))
    (tIfS (tTest (tOp uLe (tOp uMul (tVar 3) (tVar 3)) (tVar 0))) (tAsg (tVar 3) (gName 1)) (tAsg (tVar 3) (gName 2))))
def T_root (K : PySem.W.Frag) : TS :=
    (tSeq (tAsg (tC (.int 0)) (gName 1))
    (tSeq (tAsg (tC (.int 1)) (gName 2))
    (tSeq (tWhile (tTest (tOp uLe (tOp uMul (tVar 2) (tVar 2)) (tVar 0))) (T_root_b1 K))
    (tSeq (tWhile (tTest (tOp uGt (tOp uSub (tVar 2) (tVar 1)) (tC (.int 1)))) (T_root_b2 K))
    (tRet (tVar 1))))))
def sp_root (K : PySem.W.Frag) : Sp := fun vs H Q _ => ∃ n : Int, vs = [.int n] ∧ n < 2 ^ 100000 ∧ Q (.int (rootZ n)) H
theorem r_root {K : PySem.W.Frag} {n : Int} {H : Hp} {D : Ends} (hn : n < 2 ^ 100000) (k : D.rt (.int (rootZ n)) H) : T_root K D [some (.int n), none, none, none] H := by
  unfold T_root
  walk_at "zz"
  have p2 : (2 : Int) ^ 100000 > 0 := Int.pow_pos (by decide)
  have pe : (2 : Int) ^ 100000 * 4 + 1 < 2 ^ 100003 := by
    have : (2 : Int) ^ 100003 = 2 ^ 100000 * 8 := by rw [show (100003 : Nat) = 100000 + 3 from rfl, Int.pow_add]; rfl
    omega
  generalize hM : (2 : Int) ^ 100000 = M at *
  refine z_while (fun m σ H' => H = H' ∧ ∃ h : Int, σ = [some (.int n), some (.int 0), some (.int h), none] ∧ 1 ≤ h ∧ (h = 1 ∨ h * h ≤ 4 * n) ∧ m = (n + 1 - h).toNat) (n + 1 - 1).toNat ⟨rfl, 1, rfl, by decide, .inl rfl, rfl⟩ ?_
  rintro m σ H' ⟨rfl, h, rfl, h1, h2, rfl⟩
  walk_at "zz"
  refine z_mul ?_ ?_
  · have : h * h ≤ 4 * M + 1 := by
      rcases h2 with rfl | h2 <;> omega
    exact mul_sq (n := h * h) (b := 100003) (by omega) (Int.le_refl _) (by omega) (by decide)
  walk_at "zz"
  refine z_itD (fun c => z_turn ?_) (fun c => ?_)
  · unfold T_root_b1
    walk_at "zz"
    have h3 : h ≤ n := by
      have := Int.mul_le_mul_of_nonneg_left h1 (show 0 ≤ h by omega)
      omega
    refine ⟨_, ?_, rfl, h * 2, rfl, by omega, .inr ?_, rfl⟩
    · omega
    · have : h * 2 * (h * 2) = 4 * (h * h) := by
        rw [Int.mul_assoc, Int.mul_left_comm 2 h 2, ← Int.mul_assoc, Int.mul_comm (h * h)]; rfl
      omega
  walk_at "zz"
  refine z_while (fun m σ H' => H = H' ∧ ∃ (lo hi : Int) (v : Option V), σ = [some (.int n), some (.int lo), some (.int hi), v] ∧ 0 ≤ lo ∧ lo < hi ∧ n < hi * hi ∧ (0 ≤ n → lo * lo ≤ n) ∧ hi ≤ h ∧ m = (hi - lo).toNat) (h - 0).toNat ⟨rfl, 0, h, none, rfl, by omega, by omega, by omega, fun z => by omega, Int.le_refl _, rfl⟩ ?_
  rintro m σ H' ⟨rfl, lo, hi, v, rfl, g1, g2, g3, g4, g5, rfl⟩
  walk_at "zz"
  refine z_itD (fun c2 => z_turn ?_) (fun c2 => ?_)
  · unfold T_root_b2
    walk_at "zz"
    have e1 : lo < (lo + hi) / 2 := by omega
    have e2 : (lo + hi) / 2 < hi := by omega
    generalize (lo + hi) / 2 = md at *
    have hm : md * md ≤ h * h := Int.mul_le_mul (by omega) (by omega) (by omega) (by omega)
    refine z_mul ?_ ?_
    · refine mul_sq (n := h * h) (b := 100003) (by omega) hm ?_ (by decide)
      rcases h2 with rfl | h2 <;> omega
    walk_at "zz"
    refine z_itD (fun c3 => ?_) (fun c3 => ?_)
    · walk_at "zz"
      exact ⟨_, by omega, rfl, md, hi, _, rfl, by omega, by omega, g3, fun _ => c3, g5, rfl⟩
    · walk_at "zz"
      exact ⟨_, by omega, rfl, lo, md, _, rfl, by omega, by omega, by omega, g4, by omega, rfl⟩
  · walk_at "zz"
    have e : hi = lo + 1 := by omega
    subst e
    rcases Int.lt_or_le n 0 with hz | hz
    · have : lo = 0 := by
        rcases h2 with rfl | h2
        · omega
        · exfalso
          have := Int.mul_nonneg (show 0 ≤ h by omega) (show 0 ≤ h by omega)
          omega
      subst this
      rw [rootZ_neg hz] at k
      exact k
    · rw [← rootZ_uniq g1 (g4 hz) g3] at k
      exact k
theorem root_c {K : PySem.W.Frag} {n : Int} {H : Hp} {Q : VK} {E : XK} (hn : n < 2 ^ 100000) (k : Q (.int (rootZ n)) H) : sp_root K [.int n] H Q E := ⟨n, rfl, hn, k⟩
-- gap(far, near): slots 0:far 1:near
def T_gap (K : PySem.W.Frag) : TS :=
    (tSeq (tIfS (tTest (tOp uGe (tVar 1) (tVar 0))) (tRet (tC (.int 0))) tNext)
    (tRet (tOp uSub (tOp (uAdd K) (tVar 0) (tVar 1)) (tCal (sp_root K) (tCons (tOp uMul (tOp uMul (tC (.int 4)) (tVar 0)) (tVar 1)) tNil)))))
def gapZ (far near : Int) : Int := if near ≥ far then 0 else far + near - rootZ (4 * far * near)
def Short (a : Int) : Prop := a.natAbs < 2 ^ 40000
theorem Short.mul {a b : Int} (ha : Short a) (hb : Short b) : MulOk a b := .inr (wide_mul ha hb (by decide) (by decide) (by decide))
theorem pow_le_pow {a b : Nat} (h : a ≤ b) : (2 : Nat) ^ a ≤ 2 ^ b := Nat.pow_le_pow_right (by decide) h
theorem Short.of {a : Int} {b : Nat} (h : a.natAbs < 2 ^ b) (hb : b ≤ 40000) : Short a := Nat.lt_of_lt_of_le h (pow_le_pow hb)
theorem Short.four {a : Int} (ha : Short a) : (4 * a).natAbs < 2 ^ 40003 := by
  rw [Int.natAbs_mul, show (40003 : Nat) = 3 + 40000 from rfl, Nat.pow_add]
  exact Nat.mul_lt_mul'' (by decide) ha
theorem Short.mul4 {a b : Int} (ha : Short a) (hb : Short b) : MulOk (4 * a) b := .inr (wide_mul ha.four hb (by decide) (by decide) (by decide))
theorem mul4 {a b : Int} (ha : Short a) (hb : Short b) : 4 * a * b < 2 ^ 100000 := by
  have h1 : (4 * a * b).natAbs < 2 ^ (3 + 40000 + 40000) := by
    rw [Int.natAbs_mul, Int.natAbs_mul, Nat.pow_add, Nat.pow_add]
    exact Nat.mul_lt_mul'' (Nat.mul_lt_mul'' (by decide) ha) hb
  have h2 : (2 : Nat) ^ (3 + 40000 + 40000) ≤ 2 ^ 100000 := pow_le_pow (by decide)
  have h3 : ((2 ^ 100000 : Nat) : Int) = (2 : Int) ^ 100000 := by rw [Int.natCast_pow]; rfl
  rw [← h3]
  generalize (2 : Nat) ^ 100000 = M at *
  generalize (2 : Nat) ^ (3 + 40000 + 40000) = M2 at *
  omega
def sp_gap (K : PySem.W.Frag) : Sp := fun vs H Q _ => ∃ far near : Int, vs = [.int far, .int near] ∧ Short far ∧ Short near ∧ Q (.int (gapZ far near)) H
theorem r_gap {K : PySem.W.Frag} {far near : Int} {H : Hp} {D : Ends} (h1 : Short far) (h2 : Short near) (k : D.rt (.int (gapZ far near)) H) : T_gap K D [some (.int far), some (.int near)] H := by
  unfold T_gap
  walk_at "zz"
  refine z_itD (fun c => ?_) (fun c => ?_)
  · walk_at "zz"
    rw [show gapZ far near = 0 from if_pos c] at k
    exact k
  · walk_at "zz"
    refine z_mul ?_ ?_
    · exact Short.mul4 h1 h2
    walk_at "zz"
    refine root_c (mul4 h1 h2) ?_
    walk_at "zz"
    rw [show gapZ far near = far + near - rootZ (4 * far * near) from if_neg c] at k
    exact k
abbrev N_root : List Str := ["number", "low", "high", "middle"]
theorem w_root {K : PySem.W.Frag} : Wd (T_root K) N_root 1 (sp_root K) := fun vs H Q E h => by
  obtain ⟨n, rfl, hn, k⟩ := h
  exact ⟨rfl, r_root hn k⟩
abbrev N_gap : List Str := ["far", "near"]
theorem w_gap {K : PySem.W.Frag} : Wd (T_gap K) N_gap 2 (sp_gap K) := fun vs H Q E h => by
  obtain ⟨far, near, rfl, h1, h2, k⟩ := h
  exact ⟨rfl, r_gap h1 h2 k⟩

/-! ### vectors -/
def innerZ : List Int → List Int → Int
  | x :: xs, y :: ys => x * y + innerZ xs ys
  | _, _ => 0
def distZ : List Int → List Int → Int
  | x :: xs, y :: ys => (x - y) * (x - y) + distZ xs ys
  | _, _ => 0
def diffZ : List Int → List Int → Int
  | x :: xs, y :: ys => (if x = y then 0 else 1) + diffZ xs ys
  | _, _ => 0
theorem sq_nn (x : Int) : 0 ≤ x * x := by
  rcases Int.le_total 0 x with h | h
  · exact Int.mul_nonneg h h
  · exact Int.mul_nonneg_of_nonpos_of_nonpos h h
theorem distZ_nn : ∀ a b : List Int, 0 ≤ distZ a b
  | x :: xs, y :: ys => Int.add_nonneg (sq_nn _) (distZ_nn xs ys)
  | [], _ => Int.le_refl 0
  | _ :: _, [] => Int.le_refl 0
theorem distZ_comm : ∀ a b : List Int, distZ a b = distZ b a
  | x :: xs, y :: ys => by
    show (x - y) * (x - y) + _ = (y - x) * (y - x) + _
    rw [distZ_comm xs ys, show x - y = -(y - x) by omega, Int.neg_mul_neg]
  | [], [] => rfl
  | [], _ :: _ => rfl
  | _ :: _, [] => rfl
theorem take_s {xs : List Int} {i : Nat} (h : i < xs.length) : xs.take (i + 1) = xs.take i ++ [xs.getD i 0] := by
  rw [List.take_succ, List.getElem?_eq_getElem h]
  simp [List.getD, h]
theorem distZ_app : ∀ (a b : List Int) (x y : Int), a.length = b.length → distZ (a ++ [x]) (b ++ [y]) = distZ a b + (x - y) * (x - y)
  | [], [], x, y, _ => by show (x - y) * (x - y) + 0 = 0 + (x - y) * (x - y); omega
  | [], _ :: _, _, _, h => by cases h
  | _ :: _, [], _, _, h => by cases h
  | u :: a, v :: b, x, y, h => by
    show (u - v) * (u - v) + distZ (a ++ [x]) (b ++ [y]) = (u - v) * (u - v) + distZ a b + (x - y) * (x - y)
    rw [distZ_app a b x y (by simpa using h)]; omega
theorem innerZ_app : ∀ (a b : List Int) (x y : Int), a.length = b.length → innerZ (a ++ [x]) (b ++ [y]) = innerZ a b + x * y
  | [], [], x, y, _ => by show x * y + 0 = 0 + x * y; omega
  | [], _ :: _, _, _, h => by cases h
  | _ :: _, [], _, _, h => by cases h
  | u :: a, v :: b, x, y, h => by
    show u * v + innerZ (a ++ [x]) (b ++ [y]) = u * v + innerZ a b + x * y
    rw [innerZ_app a b x y (by simpa using h)]; omega
theorem diffZ_app : ∀ (a b : List Int) (x y : Int), a.length = b.length → diffZ (a ++ [x]) (b ++ [y]) = diffZ a b + (if x = y then 0 else 1)
  | [], [], x, y, _ => by show (if x = y then (0 : Int) else 1) + 0 = 0 + (if x = y then 0 else 1); omega
  | [], _ :: _, _, _, h => by cases h
  | _ :: _, [], _, _, h => by cases h
  | u :: a, v :: b, x, y, h => by
    show (if u = v then (0 : Int) else 1) + diffZ (a ++ [x]) (b ++ [y]) = (if u = v then 0 else 1) + diffZ a b + (if x = y then 0 else 1)
    rw [diffZ_app a b x y (by simpa using h)]; omega
theorem distZ_take {a b : List Int} {i : Nat} (h : a.length = b.length) (hi : i < a.length) : distZ (a.take (i + 1)) (b.take (i + 1)) = distZ (a.take i) (b.take i) + (a.getD i 0 - b.getD i 0) * (a.getD i 0 - b.getD i 0) := by
  rw [take_s hi, take_s (h ▸ hi), distZ_app _ _ _ _ (by simp [h])]
theorem innerZ_take {a b : List Int} {i : Nat} (h : a.length = b.length) (hi : i < a.length) : innerZ (a.take (i + 1)) (b.take (i + 1)) = innerZ (a.take i) (b.take i) + a.getD i 0 * b.getD i 0 := by
  rw [take_s hi, take_s (h ▸ hi), innerZ_app _ _ _ _ (by simp [h])]
theorem diffZ_take {a b : List Int} {i : Nat} (h : a.length = b.length) (hi : i < a.length) : diffZ (a.take (i + 1)) (b.take (i + 1)) = diffZ (a.take i) (b.take i) + (if a.getD i 0 = b.getD i 0 then 0 else 1) := by
  rw [take_s hi, take_s (h ▸ hi), diffZ_app _ _ _ _ (by simp [h])]
/-- all within b of nought -/
def Bd (b : Int) (ns : List Int) : Prop := ∀ x ∈ ns, -b ≤ x ∧ x ≤ b
theorem Bd.app {b x : Int} {ns : List Int} (h : Bd b ns) (h1 : -b ≤ x) (h2 : x ≤ b) : Bd b (ns ++ [x]) := fun y hy => by
  rcases List.mem_append.mp hy with hy | hy
  · exact h y hy
  · rw [List.mem_singleton.mp hy]; exact ⟨h1, h2⟩
theorem Bd.mono {b c : Int} {ns : List Int} (h : Bd b ns) (hbc : b ≤ c) : Bd c ns := fun y hy => by have := h y hy; omega
theorem getD_mem {ns : List Int} {i : Nat} (h : i < ns.length) : ns.getD i 0 ∈ ns := by
  rw [List.getD_eq_getElem?_getD, List.getElem?_eq_getElem h]; exact List.getElem_mem h
theorem Bd.at {b : Int} {ns : List Int} (h : Bd b ns) {i : Nat} (hi : i < ns.length) : -b ≤ ns.getD i 0 ∧ ns.getD i 0 ≤ b := h _ (getD_mem hi)
theorem sq_le {x b : Int} (h1 : -b ≤ x) (h2 : x ≤ b) : x * x ≤ b * b := by
  rcases Int.le_total 0 x with h | h
  · exact Int.mul_le_mul h2 h2 h (by omega)
  · have := Int.mul_le_mul (show -x ≤ b by omega) (show -x ≤ b by omega) (show 0 ≤ -x by omega) (show 0 ≤ b by omega)
    rw [Int.neg_mul_neg] at this; exact this
theorem distZ_le {b : Int} : ∀ {xs ys : List Int}, Bd b xs → Bd b ys → distZ xs ys ≤ xs.length * (4 * (b * b))
  | [], _, _, _ => by simp [distZ]
  | x :: xs, [], _, _ => by
    have := sq_nn b
    show (0 : Int) ≤ _
    exact Int.mul_nonneg (Int.natCast_nonneg _) (by omega)
  | x :: xs, y :: ys, h1, h2 => by
    have ih := distZ_le (b := b) (fun z hz => h1 z (List.mem_cons_of_mem _ hz)) (fun z hz => h2 z (List.mem_cons_of_mem _ hz)) (xs := xs) (ys := ys)
    have a := h1 x List.mem_cons_self
    have c := h2 y List.mem_cons_self
    have e := sq_le (x := x - y) (b := 2 * b) (by omega) (by omega)
    have e2 : 2 * b * (2 * b) = 4 * (b * b) := by rw [Int.mul_assoc, Int.mul_left_comm b 2 b, ← Int.mul_assoc]; rfl
    show (x - y) * (x - y) + distZ xs ys ≤ ((xs.length + 1 : Nat) : Int) * (4 * (b * b))
    rw [Int.natCast_add, Int.add_mul]
    generalize (xs.length : Int) * (4 * (b * b)) = u at *
    generalize b * b = v at *
    omega
/-- the quadratic form of two vectors -/
theorem quad : ∀ (a b : List Int) (l m : Int), a.length = b.length → 0 ≤ l * l * innerZ a a + 2 * (l * m) * innerZ a b + m * m * innerZ b b
  | [], [], l, m, _ => by show 0 ≤ l * l * 0 + 2 * (l * m) * 0 + m * m * 0; simp
  | [], _ :: _, _, _, h => by cases h
  | _ :: _, [], _, _, h => by cases h
  | x :: a, y :: b, l, m, h => by
    have ih := quad a b l m (by simpa using h)
    have s := sq_nn (l * x + m * y)
    show 0 ≤ l * l * (x * x + innerZ a a) + 2 * (l * m) * (x * y + innerZ a b) + m * m * (y * y + innerZ b b)
    have e : (l * x + m * y) * (l * x + m * y) = l * l * (x * x) + 2 * (l * m) * (x * y) + m * m * (y * y) := by
      have e1 : l * x * (l * x) = l * l * (x * x) := by ac_rfl
      have e2 : l * x * (m * y) = l * m * (x * y) := by ac_rfl
      have e3 : m * y * (l * x) = l * m * (x * y) := by ac_rfl
      have e4 : m * y * (m * y) = m * m * (y * y) := by ac_rfl
      rw [Int.add_mul, Int.mul_add, Int.mul_add, e1, e2, e3, e4, Int.mul_assoc 2]
      omega
    rw [e] at s
    simp only [Int.mul_add]
    omega
theorem inner_sq_nn : ∀ a : List Int, 0 ≤ innerZ a a
  | [] => Int.le_refl 0
  | x :: a => Int.add_nonneg (sq_nn x) (inner_sq_nn a)
/-- Cauchy, Schwarz -/
theorem cauchy {a b : List Int} (h : a.length = b.length) : innerZ a b * innerZ a b ≤ innerZ a a * innerZ b b := by
  have hA := inner_sq_nn a
  have hB := inner_sq_nn b
  have q1 := quad a b (innerZ b b) (-innerZ a b) h
  have q2 := quad a b (innerZ a b) (-(innerZ a a + 1)) h
  generalize innerZ a a = A at *
  generalize innerZ b b = B at *
  generalize innerZ a b = S at *
  rcases Int.lt_or_le 0 B with z | z
  · have e : B * B * A + 2 * (B * -S) * S + -S * -S * B = B * (A * B - S * S) := by
      have e1 : B * B * A = B * (A * B) := by ac_rfl
      have e2 : 2 * (B * -S) * S = -(2 * (B * (S * S))) := by
        rw [Int.mul_neg, Int.mul_neg, Int.neg_mul]; congr 1; ac_rfl
      have e3 : -S * -S * B = B * (S * S) := by rw [Int.neg_mul_neg]; ac_rfl
      rw [e1, e2, e3, Int.mul_sub]; omega
    rw [e] at q1
    have : 0 ≤ A * B - S * S := by
      rcases Int.lt_or_le (A * B - S * S) 0 with n | n
      · have := Int.mul_neg_of_pos_of_neg z n
        omega
      · exact n
    omega
  · have hB0 : B = 0 := by omega
    subst hB0
    have e : S * S * A + 2 * (S * -(A + 1)) * S + -(A + 1) * -(A + 1) * 0 = -(S * S * (A + 2)) := by
      have e1 : 2 * (S * -(A + 1)) * S = -(2 * (S * S * (A + 1))) := by
        rw [Int.mul_neg, Int.mul_neg, Int.neg_mul]; congr 1; ac_rfl
      rw [e1, Int.mul_zero]; simp only [Int.mul_add]; omega
    rw [e] at q2
    have s0 := sq_nn S
    rw [Int.mul_zero]
    rcases Int.lt_or_le 0 (S * S) with n | n
    · have := Int.mul_pos n (show 0 < A + 2 by omega)
      omega
    · exact n
/-- the distances of three points -/
theorem dist3 : ∀ (a b c : List Int), a.length = b.length → b.length = c.length → ∃ x y : List Int, x.length = y.length ∧ distZ a b = innerZ x x ∧ distZ b c = innerZ y y ∧ distZ a c = innerZ x x + innerZ y y + 2 * innerZ x y
  | [], [], [], _, _ => ⟨[], [], rfl, rfl, rfl, rfl⟩
  | u :: a, v :: b, w :: c, h1, h2 => by
    obtain ⟨x, y, e0, e1, e2, e3⟩ := dist3 a b c (by simpa using h1) (by simpa using h2)
    refine ⟨(u - v) :: x, (v - w) :: y, by simp [e0], ?_, ?_, ?_⟩
    · show _ + _ = _ + _; rw [e1]
    · show _ + _ = _ + _; rw [e2]
    · show (u - w) * (u - w) + distZ a c = ((u - v) * (u - v) + innerZ x x) + ((v - w) * (v - w) + innerZ y y) + 2 * ((u - v) * (v - w) + innerZ x y)
      rw [e3, show u - w = (u - v) + (v - w) by omega]
      generalize u - v = p
      generalize v - w = q
      simp only [Int.add_mul, Int.mul_add, Int.mul_comm q p]
      omega
  | [], [], _ :: _, _, h => by cases h
  | [], _ :: _, _, h, _ => by cases h
  | _ :: _, [], _, h, _ => by cases h
  | _ :: _, _ :: _, [], _, h => by cases h
/-- the heart of the gap: with A, B, C the three distances -/
theorem gap_core {A B C far near : Int} (hC : 0 ≤ C) (hB : 0 ≤ B) (h4 : (C - A - B) * (C - A - B) ≤ 4 * (A * B)) (h1 : far ≤ A) (h2 : B ≤ near) (h3 : near < far) (t : 0 < far + near - C) :
    (far + near - C) * (far + near - C) ≤ 4 * (far * near) := by
  have id : ∀ u v : Int, 4 * (u * v) - (u + v - C) * (u + v - C) = 2 * (C * (u + v)) - (u - v) * (u - v) - C * C := fun u v => by
    simp only [Int.add_mul, Int.sub_mul, Int.mul_add, Int.mul_sub, Int.mul_comm v u, Int.mul_comm C u, Int.mul_comm C v]; omega
  have hAB : 0 ≤ 2 * (C * (A + B)) - (A - B) * (A - B) - C * C := by
    rw [← id A B]
    have : (C - A - B) * (C - A - B) = (A + B - C) * (A + B - C) := by
      rw [show C - A - B = -(A + B - C) by omega, Int.neg_mul_neg]
    omega
  have hn : 0 ≤ near := by omega
  have goal : 0 ≤ 2 * (C * (far + near)) - (far - near) * (far - near) - C * C := by
    rcases Int.lt_or_le C (far - near) with c | c
    · -- far from it: first from B to near, then from A to far
      have s1 : 0 ≤ 2 * (C * (A + near)) - (A - near) * (A - near) - C * C := by
        have m := Int.mul_nonneg (show 0 ≤ near - B by omega) (show 0 ≤ 2 * A - B - near + 2 * C by omega)
        have e : (near - B) * (2 * A - B - near + 2 * C) = (2 * (C * (A + near)) - (A - near) * (A - near)) - (2 * (C * (A + B)) - (A - B) * (A - B)) := by
          simp only [Int.add_mul, Int.sub_mul, Int.mul_add, Int.mul_sub, Int.mul_comm near A, Int.mul_comm B A, Int.mul_comm near B, Int.mul_comm C A, Int.mul_comm C B, Int.mul_comm C near, Int.mul_left_comm near 2, Int.mul_left_comm B 2]; omega
        omega
      have m := Int.mul_nonneg (show 0 ≤ A - far by omega) (show 0 ≤ A + far - 2 * near - 2 * C by omega)
      have e : (A - far) * (A + far - 2 * near - 2 * C) = (2 * (C * (far + near)) - (far - near) * (far - near)) - (2 * (C * (A + near)) - (A - near) * (A - near)) := by
        simp only [Int.add_mul, Int.sub_mul, Int.mul_add, Int.mul_sub, Int.mul_comm near A, Int.mul_comm far A, Int.mul_comm near far, Int.mul_comm C A, Int.mul_comm C far, Int.mul_comm C near, Int.mul_left_comm A 2, Int.mul_left_comm far 2]; omega
      omega
    · have m1 := Int.mul_nonneg hC (show 0 ≤ far + 3 * near - C by omega)
      have m2 := Int.mul_nonneg (show 0 ≤ far - near by omega) (show 0 ≤ C - (far - near) by omega)
      have e1 : C * (far + 3 * near - C) = 2 * (C * (far + near)) - C * (far - near) - C * C := by
        simp only [Int.mul_add, Int.mul_sub, Int.mul_left_comm C 3]; omega
      have e2 : (far - near) * (C - (far - near)) = C * (far - near) - (far - near) * (far - near) := by
        rw [Int.mul_sub, Int.mul_comm (far - near) C]
      omega
  have := id far near
  omega
theorem le_root {t n : Int} (h0 : 0 ≤ t) (h : t * t ≤ n) : t ≤ rootZ n := by
  obtain ⟨s1, s2⟩ := rootZ_spec (Int.le_trans (Int.mul_nonneg h0 h0) h)
  have := sq_lt h0 (show 0 ≤ rootZ n + 1 by have := rootZ_nn n; omega) (Int.lt_of_le_of_lt h s2)
  omega
theorem root_le {t n : Int} (h0 : 0 ≤ t) (hn : 0 ≤ n) (h : n ≤ t * t) : rootZ n ≤ t := by
  obtain ⟨s1, s2⟩ := rootZ_spec hn
  rcases Int.lt_or_le t (rootZ n) with z | z
  · have := Int.mul_lt_mul z (Int.le_of_lt z)
    exfalso
    have h3 : t * t < rootZ n * rootZ n := by
      have a := Int.mul_le_mul_of_nonneg_left (Int.le_of_lt z) h0
      have b := Int.mul_lt_mul_of_pos_right z (show 0 < rootZ n by omega)
      omega
    omega
  · exact z
theorem gap_nn {far near : Int} (h : 0 ≤ near) : 0 ≤ gapZ far near := by
  unfold gapZ
  split
  · exact Int.le_refl 0
  · rename_i h1
    have hf : 0 ≤ far := by omega
    have e : 4 * far * near = 4 * (far * near) := Int.mul_assoc _ _ _
    have p := Int.mul_nonneg hf h
    have : rootZ (4 * far * near) ≤ far + near := by
      refine root_le (by omega) (by omega) ?_
      have s := sq_nn (far - near)
      have e2 : (far + near) * (far + near) = (far - near) * (far - near) + 4 * (far * near) := by
        simp only [Int.add_mul, Int.sub_mul, Int.mul_add, Int.mul_sub, Int.mul_comm near far]; omega
      omega
    omega
theorem gap_safe {a b c : List Int} {far near : Int} (e1 : a.length = b.length) (e2 : b.length = c.length) (h1 : far ≤ distZ a b) (h2 : distZ b c ≤ near) : gapZ far near ≤ distZ a c := by
  have hC := distZ_nn a c
  have hB := distZ_nn b c
  unfold gapZ
  split
  · exact hC
  · rename_i h3
    obtain ⟨x, y, e0, eA, eB, eC⟩ := dist3 a b c e1 e2
    have cs := cauchy e0
    have e : 4 * far * near = 4 * (far * near) := Int.mul_assoc _ _ _
    have p := Int.mul_nonneg (show 0 ≤ far by omega) (show 0 ≤ near by omega)
    rcases Int.lt_or_le 0 (far + near - distZ a c) with t | t
    · have g := gap_core (A := distZ a b) (B := distZ b c) hC hB (by
        rw [eA, eB, eC]
        generalize innerZ x x = A at *
        generalize innerZ y y = B at *
        generalize innerZ x y = S at *
        rw [show A + B + 2 * S - A - B = 2 * S by omega]
        have : 2 * S * (2 * S) = 4 * (S * S) := by rw [Int.mul_assoc, Int.mul_left_comm S 2 S, ← Int.mul_assoc]; rfl
        omega) h1 h2 (by omega) t
      have := le_root (t := far + near - distZ a c) (n := 4 * far * near) (by omega) (by omega)
      omega
    · have := rootZ_nn (4 * far * near)
      omega

abbrev N_law_point : List Str := ["_law_state", "_law_size", "_law_spread", "_law_k"]
-- _law_point(_law_state, _law_size, _law_spread): slots 0:_law_state 1:_law_size 2:_law_spread 3:_law_k
def T_law_point (K : PySem.W.Frag) : TS :=
    (tRet (tLc (iRng1 (tCons (tVar 1) tNil)) (gName 3) tYes (tOp uSub (tCal (sp_law_next K) (tCons (tVar 0) (tCons (tOp (uAdd K) (tOp uMul (tC (.int 2)) (tVar 2)) (tC (.int 1))) tNil))) (tVar 2)) [3]))

def sp_law_point (K : PySem.W.Frag) : Sp := fun vs H Q _ => ∃ (st L : Addr) (sz s : Int), vs = [.ref st, .int sz, .int s] ∧ Draw H st L ∧ 0 ≤ sz ∧ sz ≤ 1000 ∧ 0 ≤ s ∧ s ≤ 1000000000 ∧
  ∀ (p : Addr) (ns : List Int) (H' : Hp), H p = none → H' p = some (.lst (ns.map V.int)) → (ns.length : Int) = sz → Bd s ns → Draw H' st L → ExD H H' → Q (.ref p) H'
theorem law_point_c {K : PySem.W.Frag} {st L : Addr} {sz s : Int} {H : Hp} {Q : VK} {E : XK} (d : Draw H st L) (h : 0 ≤ sz ∧ sz ≤ 1000) (h2 : 0 ≤ s ∧ s ≤ 1000000000)
    (q : ∀ (p : Addr) (ns : List Int) (H' : Hp), H p = none → H' p = some (.lst (ns.map V.int)) → (ns.length : Int) = sz → Bd s ns → Draw H' st L → ExD H H' → Q (.ref p) H') : sp_law_point K [.ref st, .int sz, .int s] H Q E :=
  ⟨st, L, sz, s, rfl, d, h.1, h.2, h2.1, h2.2, q⟩
theorem map_app {ns : List Int} {x : Int} : ns.map V.int ++ [V.int x] = (ns ++ [x]).map V.int := by simp
theorem r_law_point {K : PySem.W.Frag} {st L : Addr} {sz s : Int} {H : Hp} {D : Ends} (d : Draw H st L) (h1 : 0 ≤ sz) (h2 : sz ≤ 1000) (h3 : 0 ≤ s) (h4 : s ≤ 1000000000)
    (q : ∀ (p : Addr) (ns : List Int) (H' : Hp), H p = none → H' p = some (.lst (ns.map V.int)) → (ns.length : Int) = sz → Bd s ns → Draw H' st L → ExD H H' → D.rt (.ref p) H') : T_law_point K D [some (.ref st), some (.int sz), some (.int s), none] H := by
  unfold T_law_point
  walk_at "zz"
  refine z_lcr1 (by omega) ?_
  refine z_lcr (fun p i H' => ∃ ns : List Int, H' p = some (.lst (ns.map V.int)) ∧ ns.length = i ∧ Bd s ns ∧ Draw H' st L ∧ ExD H H') (fun p hp => ⟨[], upd_same, rfl, (fun _ h => nomatch h), Draw.new hp d, ExD.new hp (ExD.refl H)⟩) ?_ ?_
  · rintro p i H' hp hi ⟨ns, e, hl, hb, d1, x1⟩
    have np := Draw.ne hp d
    have nL := Draw.neL hp d
    walk_at "zz"
    refine ⟨rfl, ?_⟩
    walk_at "zz"
    walk_at "nx"
    intro r H2 a2 b2 d2 x2
    walk_at "zz"
    have e2 := x2.lk e NotSt.ints
    refine z_accum e2 (by simp; omega) ?_
    rw [map_app]
    exact ⟨ns ++ [r - s], upd_same, by simp [hl], hb.app (by omega) (by omega), Draw.put np nL d2, ExD.new hp (x1.trans x2)⟩
  · rintro p H' hp ⟨ns, e, hl, hb, d1, x1⟩
    exact q p ns H' hp e (by omega) hb d1 x1
theorem w_law_point {K : PySem.W.Frag} : Wd (T_law_point K) N_law_point 3 (sp_law_point K) := fun vs H Q E h => by
  obtain ⟨st, L, sz, s, rfl, d, h1, h2, h3, h4, q⟩ := h
  exact ⟨rfl, r_law_point d h1 h2 h3 h4 q⟩
abbrev N_law_distance : List Str := ["_law_a", "_law_b", "_law_total", "_law_k"]
-- _law_distance(_law_a, _law_b): slots 0:_law_a 1:_law_b 2:_law_total 3:_law_k
def T_law_distance_b1 (K : PySem.W.Frag) : TS :=
    (tAsg (tOp (uAdd K) (tVar 2) (tOp uMul (tOp uSub (tOp (uIx K) (tVar 0) (tVar 3)) (tOp (uIx K) (tVar 1) (tVar 3))) (tOp uSub (tOp (uIx K) (tVar 0) (tVar 3)) (tOp (uIx K) (tVar 1) (tVar 3))))) (gName 2))
def T_law_distance (K : PySem.W.Frag) : TS :=
    (tSeq (tAsg (tC (.int 0)) (gName 2))
    (tSeq (tFor (iRng1 (tCons (tCB (uLen K) (tCons (tVar 0) tNil)) tNil)) (gName 3) (T_law_distance_b1 K))
    (tRet (tVar 2))))

def sp_law_distance (K : PySem.W.Frag) : Sp := fun vs H Q _ => ∃ (p r : Addr) (a b : List Int), vs = [.ref p, .ref r] ∧ SqL K H p (a.map V.int) ∧ SqL K H r (b.map V.int) ∧ a.length = b.length ∧ a.length ≤ 100000 ∧ Bd 100000000000000000 a ∧ Bd 100000000000000000 b ∧ Q (.int (distZ a b)) H
theorem law_distance_c {K : PySem.W.Frag} {p r : Addr} {a b : List Int} {H : Hp} {Q : VK} {E : XK} (h1 : SqL K H p (a.map V.int)) (h2 : SqL K H r (b.map V.int)) (h3 : a.length = b.length) (h4 : a.length ≤ 100000) (h5 : Bd 100000000000000000 a) (h6 : Bd 100000000000000000 b) (q : Q (.int (distZ a b)) H) :
    sp_law_distance K [.ref p, .ref r] H Q E := ⟨p, r, a, b, rfl, h1, h2, h3, h4, h5, h6, q⟩
theorem r_law_distance {K : PySem.W.Frag} {p r : Addr} {a b : List Int} {H : Hp} {D : Ends} (h1 : SqL K H p (a.map V.int)) (h2 : SqL K H r (b.map V.int)) (h3 : a.length = b.length) (h4 : a.length ≤ 100000) (h5 : Bd 100000000000000000 a) (h6 : Bd 100000000000000000 b) (q : D.rt (.int (distZ a b)) H) :
    T_law_distance K D [some (.ref p), some (.ref r), none, none] H := by
  unfold T_law_distance
  walk_at "zz"
  refine z_rng1 (by simp; omega) ?_ (by omega)
  refine z_rng (fun i σ H' => H = H' ∧ ∃ v, σ = [some (.ref p), some (.ref r), some (.int (distZ (a.take i) (b.take i))), v]) ⟨rfl, none, by simp [distZ]⟩ ?_ ?_
  · rintro i σ H' hi ⟨rfl, v, rfl⟩
    have hi : i < a.length := by simpa using hi
    unfold T_law_distance_b1
    walk_at "zz"
    refine z_ix (.inl h1) (at_int (by omega) (by omega)) ?_
    walk_at "zz"
    refine z_ix (.inl h2) (at_int (by omega) (by omega)) ?_
    walk_at "zz"
    refine z_ix (.inl h1) (at_int (by omega) (by omega)) ?_
    walk_at "zz"
    refine z_ix (.inl h2) (at_int (by omega) (by omega)) ?_
    have ei : (0 + (i : Int)).toNat = i := by omega
    rw [ei]
    have u1 := h5.at hi
    have u2 := h6.at (h3 ▸ hi)
    walk_at "zz"
    rw [distZ_take h3 hi]
    exact ⟨rfl, _, rfl⟩
  · rintro σ H' ⟨rfl, v, rfl⟩
    walk_at "zz"
    have e : (Int.toNat (↑(List.map V.int a).length)) = a.length := by simp
    rw [e, List.take_length, h3, List.take_length]
    exact q
theorem w_law_distance {K : PySem.W.Frag} : Wd (T_law_distance K) N_law_distance 2 (sp_law_distance K) := fun vs H Q E h => by
  obtain ⟨p, r, a, b, rfl, h1, h2, h3, h4, h5, h6, q⟩ := h
  exact ⟨rfl, r_law_distance h1 h2 h3 h4 h5 h6 q⟩


/-! ### the products and distances of the program -/
/-- two lists, or two tuples, of ints -/
def Two (K : PySem.W.Frag) (H : Hp) (p r : Addr) (a b : List Int) : Prop := (SqL K H p (a.map V.int) ∧ SqL K H r (b.map V.int)) ∨ (SqT K H p (a.map V.int) ∧ SqT K H r (b.map V.int))

abbrev N_inner : List Str := ["a", "b", "total", "x", "y"]
-- inner(a, b): slots 0:a 1:b 2:total 3:x 4:y
def T_inner_b1 (K : PySem.W.Frag) : TS :=
    (tAsg (tOp (uAdd K) (tVar 2) (tOp uMul (tVar 3) (tVar 4))) (gName 2))
def T_inner (K : PySem.W.Frag) : TS :=
    (tSeq (tAsg (tC (.int 0)) (gName 2))
    (tSeq (tFor (RZ.iZipA K (tCons (tVar 0) (tCons (tVar 1) tNil))) (gTup K 2 (gCons (gName 3) (gCons (gName 4) gNil))) (T_inner_b1 K))
    (tRet (tVar 2))))


def sp_inner (K : PySem.W.Frag) : Sp := fun vs H Q _ => ∃ (p r : Addr) (a b : List Int), vs = [.ref p, .ref r] ∧ Two K H p r a b ∧ a.length = b.length ∧ Bd 100000000000000000 a ∧ Bd 100000000000000000 b ∧ ∀ H', Same H H' → Q (.int (innerZ a b)) H'
theorem inner_c {K : PySem.W.Frag} {p r : Addr} {a b : List Int} {H : Hp} {Q : VK} {E : XK} (h : Two K H p r a b) (h3 : a.length = b.length) (h5 : Bd 100000000000000000 a) (h6 : Bd 100000000000000000 b) (q : ∀ H', Same H H' → Q (.int (innerZ a b)) H') : sp_inner K [.ref p, .ref r] H Q E := ⟨p, r, a, b, rfl, h, h3, h5, h6, q⟩
theorem r_inner {K : PySem.W.Frag} {p r : Addr} {a b : List Int} {H : Hp} {D : Ends} (h : Two K H p r a b) (h3 : a.length = b.length) (h5 : Bd 100000000000000000 a) (h6 : Bd 100000000000000000 b) (q : ∀ H', Same H H' → D.rt (.int (innerZ a b)) H') : T_inner K D [some (.ref p), some (.ref r), none, none, none] H := by
  unfold T_inner
  walk_at "zz"
  refine z_zip h (fun i σ H' => Same H H' ∧ ∃ v w, σ = [some (.ref p), some (.ref r), some (.int (innerZ (a.take i) (b.take i))), v, w]) ⟨Same.refl H, none, none, by simp [innerZ]⟩ (fun i σ H' h => h.1) ?_ ?_
  · rintro i x y t σ H' hx hy ⟨s, v, w, rfl⟩ ht
    obtain ⟨l1, rfl⟩ := map_int hx
    obtain ⟨l2, rfl⟩ := map_int hy
    have u1 := h5.at l1
    have u2 := h6.at l2
    unfold T_inner_b1
    walk_at "zz"
    rw [← innerZ_take h3 l1]
    exact ⟨Same.new ht s, _, _, rfl⟩
  · rintro σ H' ⟨s, v, w, rfl⟩
    walk_at "zz"
    have e : min (a.map V.int).length (b.map V.int).length = a.length := by simp [h3]
    rw [e, List.take_length, h3, List.take_length]
    exact q H' s
theorem w_inner {K : PySem.W.Frag} : Wd (T_inner K) N_inner 2 (sp_inner K) := fun vs H Q E h => by
  obtain ⟨p, r, a, b, rfl, h1, h3, h5, h6, q⟩ := h
  exact ⟨rfl, r_inner h1 h3 h5 h6 q⟩

abbrev N_distance : List Str := ["a", "b", "total", "x", "y"]
-- distance(a, b): slots 0:a 1:b 2:total 3:x 4:y
def T_distance_b1 (K : PySem.W.Frag) : TS :=
    (tAsg (tOp (uAdd K) (tVar 2) (tOp uMul (tOp uSub (tVar 3) (tVar 4)) (tOp uSub (tVar 3) (tVar 4)))) (gName 2))
def T_distance (K : PySem.W.Frag) : TS :=
    (tSeq (tAsg (tC (.int 0)) (gName 2))
    (tSeq (tFor (RZ.iZipA K (tCons (tVar 0) (tCons (tVar 1) tNil))) (gTup K 2 (gCons (gName 3) (gCons (gName 4) gNil))) (T_distance_b1 K))
    (tRet (tVar 2))))


def sp_distance (K : PySem.W.Frag) : Sp := fun vs H Q _ => ∃ (p r : Addr) (a b : List Int), vs = [.ref p, .ref r] ∧ Two K H p r a b ∧ a.length = b.length ∧ Bd 100000000000000000 a ∧ Bd 100000000000000000 b ∧ ∀ H', Same H H' → Q (.int (distZ a b)) H'
theorem distance_c {K : PySem.W.Frag} {p r : Addr} {a b : List Int} {H : Hp} {Q : VK} {E : XK} (h : Two K H p r a b) (h3 : a.length = b.length) (h5 : Bd 100000000000000000 a) (h6 : Bd 100000000000000000 b) (q : ∀ H', Same H H' → Q (.int (distZ a b)) H') : sp_distance K [.ref p, .ref r] H Q E := ⟨p, r, a, b, rfl, h, h3, h5, h6, q⟩
theorem r_distance {K : PySem.W.Frag} {p r : Addr} {a b : List Int} {H : Hp} {D : Ends} (h : Two K H p r a b) (h3 : a.length = b.length) (h5 : Bd 100000000000000000 a) (h6 : Bd 100000000000000000 b) (q : ∀ H', Same H H' → D.rt (.int (distZ a b)) H') : T_distance K D [some (.ref p), some (.ref r), none, none, none] H := by
  unfold T_distance
  walk_at "zz"
  refine z_zip h (fun i σ H' => Same H H' ∧ ∃ v w, σ = [some (.ref p), some (.ref r), some (.int (distZ (a.take i) (b.take i))), v, w]) ⟨Same.refl H, none, none, by simp [distZ]⟩ (fun i σ H' h => h.1) ?_ ?_
  · rintro i x y t σ H' hx hy ⟨s, v, w, rfl⟩ ht
    obtain ⟨l1, rfl⟩ := map_int hx
    obtain ⟨l2, rfl⟩ := map_int hy
    have u1 := h5.at l1
    have u2 := h6.at l2
    unfold T_distance_b1
    walk_at "zz"
    rw [← distZ_take h3 l1]
    exact ⟨Same.new ht s, _, _, rfl⟩
  · rintro σ H' ⟨s, v, w, rfl⟩
    walk_at "zz"
    have e : min (a.map V.int).length (b.map V.int).length = a.length := by simp [h3]
    rw [e, List.take_length, h3, List.take_length]
    exact q H' s
theorem w_distance {K : PySem.W.Frag} : Wd (T_distance K) N_distance 2 (sp_distance K) := fun vs H Q E h => by
  obtain ⟨p, r, a, b, rfl, h1, h3, h5, h6, q⟩ := h
  exact ⟨rfl, r_distance h1 h3 h5 h6 q⟩

abbrev N_differing : List Str := ["a", "b", "total", "x", "y"]
-- differing(a, b): slots 0:a 1:b 2:total 3:x 4:y
def T_differing_b1 (K : PySem.W.Frag) : TS :=
    (tIfS (tTest (tOp (uNe K) (tVar 3) (tVar 4))) (tAsg (tOp (uAdd K) (tVar 2) (tC (.int 1))) (gName 2)) tNext)
def T_differing (K : PySem.W.Frag) : TS :=
    (tSeq (tAsg (tC (.int 0)) (gName 2))
    (tSeq (tFor (RZ.iZipA K (tCons (tVar 0) (tCons (tVar 1) tNil))) (gTup K 2 (gCons (gName 3) (gCons (gName 4) gNil))) (T_differing_b1 K))
    (tRet (tVar 2))))


def sp_differing (K : PySem.W.Frag) : Sp := fun vs H Q _ => ∃ (p r : Addr) (a b : List Int), vs = [.ref p, .ref r] ∧ Two K H p r a b ∧ a.length = b.length ∧ Bd 100000000000000000 a ∧ Bd 100000000000000000 b ∧ ∀ H', Same H H' → Q (.int (diffZ a b)) H'
theorem differing_c {K : PySem.W.Frag} {p r : Addr} {a b : List Int} {H : Hp} {Q : VK} {E : XK} (h : Two K H p r a b) (h3 : a.length = b.length) (h5 : Bd 100000000000000000 a) (h6 : Bd 100000000000000000 b) (q : ∀ H', Same H H' → Q (.int (diffZ a b)) H') : sp_differing K [.ref p, .ref r] H Q E := ⟨p, r, a, b, rfl, h, h3, h5, h6, q⟩
theorem r_differing {K : PySem.W.Frag} {p r : Addr} {a b : List Int} {H : Hp} {D : Ends} (h : Two K H p r a b) (h3 : a.length = b.length) (h5 : Bd 100000000000000000 a) (h6 : Bd 100000000000000000 b) (q : ∀ H', Same H H' → D.rt (.int (diffZ a b)) H') : T_differing K D [some (.ref p), some (.ref r), none, none, none] H := by
  unfold T_differing
  walk_at "zz"
  refine z_zip h (fun i σ H' => Same H H' ∧ ∃ v w, σ = [some (.ref p), some (.ref r), some (.int (diffZ (a.take i) (b.take i))), v, w]) ⟨Same.refl H, none, none, by simp [diffZ]⟩ (fun i σ H' h => h.1) ?_ ?_
  · rintro i x y t σ H' hx hy ⟨s, v, w, rfl⟩ ht
    obtain ⟨l1, rfl⟩ := map_int hx
    obtain ⟨l2, rfl⟩ := map_int hy
    have u1 := h5.at l1
    have u2 := h6.at l2
    unfold T_differing_b1
    walk_at "zz"
    refine z_itN (fun c => ?_) (fun c => ?_)
    · walk_at "zz"
      have e := diffZ_take h3 l1
      rw [if_neg c] at e
      rw [← e]
      exact ⟨Same.new ht s, _, _, rfl⟩
    · walk_at "zz"
      have e := diffZ_take h3 l1
      rw [if_pos c, Int.add_zero] at e
      rw [← e]
      exact ⟨Same.new ht s, _, _, rfl⟩
  · rintro σ H' ⟨s, v, w, rfl⟩
    walk_at "zz"
    have e : min (a.map V.int).length (b.map V.int).length = a.length := by simp [h3]
    rw [e, List.take_length, h3, List.take_length]
    exact q H' s
theorem w_differing {K : PySem.W.Frag} : Wd (T_differing K) N_differing 2 (sp_differing K) := fun vs H Q E h => by
  obtain ⟨p, r, a, b, rfl, h1, h3, h5, h6, q⟩ := h
  exact ⟨rfl, r_differing h1 h3 h5 h6 q⟩

abbrev N_norm : List Str := ["a"]
-- norm(a): slots 0:a
def T_norm (K : PySem.W.Frag) : TS :=
    (tRet (tCal (sp_inner K) (tCons (tVar 0) (tCons (tVar 0) tNil))))


def sp_norm (K : PySem.W.Frag) : Sp := fun vs H Q _ => ∃ (p : Addr) (a : List Int), vs = [.ref p] ∧ (SqL K H p (a.map V.int) ∨ SqT K H p (a.map V.int)) ∧ Bd 100000000000000000 a ∧ ∀ H', Same H H' → Q (.int (innerZ a a)) H'
theorem norm_c {K : PySem.W.Frag} {p : Addr} {a : List Int} {H : Hp} {Q : VK} {E : XK} (h : SqL K H p (a.map V.int) ∨ SqT K H p (a.map V.int)) (h5 : Bd 100000000000000000 a) (q : ∀ H', Same H H' → Q (.int (innerZ a a)) H') : sp_norm K [.ref p] H Q E := ⟨p, a, rfl, h, h5, q⟩
theorem r_norm {K : PySem.W.Frag} {p : Addr} {a : List Int} {H : Hp} {D : Ends} (h : SqL K H p (a.map V.int) ∨ SqT K H p (a.map V.int)) (h5 : Bd 100000000000000000 a) (q : ∀ H', Same H H' → D.rt (.int (innerZ a a)) H') : T_norm K D [some (.ref p)] H := by
  unfold T_norm
  walk_at "zz"
  exact inner_c (h.elim (fun z => .inl ⟨z, z⟩) fun z => .inr ⟨z, z⟩) rfl h5 h5 q
theorem w_norm {K : PySem.W.Frag} : Wd (T_norm K) N_norm 1 (sp_norm K) := fun vs H Q E h => by
  obtain ⟨p, a, rfl, h1, h5, q⟩ := h
  exact ⟨rfl, r_norm h1 h5 q⟩

/-! ### objects while they are made -/
/-- all but p stays -/
def SameB (p : Addr) (H H' : Hp) : Prop := ∀ a o, a ≠ p → H a = some o → H' a = some o
theorem SameB.refl (p : Addr) (H : Hp) : SameB p H H := fun _ _ _ e => e
theorem SameB.same {p : Addr} {H H1 H2 : Hp} (s : SameB p H H1) (t : Same H1 H2) : SameB p H H2 := fun a o n e => t _ _ (s a o n e)
theorem SameB.put {p : Addr} {H H1 : Hp} {o : HO} (s : SameB p H H1) : SameB p H (upd H1 p o) := fun a u n e => lk_ne n (s a u n e)
theorem SameB.new {p q : Addr} {H H1 : Hp} {o : HO} (h : H1 q = none) (s : SameB p H H1) : SameB p H (upd H1 q o) := fun a u n e => lk_new h (s a u n e)
theorem SameB.putN {p q : Addr} {H H1 : Hp} {o : HO} (h : H q = none) (s : SameB p H H1) : SameB p H (upd H1 q o) := fun a u n e => lk_ne (ne_of_none e h) (s a u n e)
theorem SameB.out {p dx : Addr} {H H' : Hp} {o1 o2 : HO} (h1 : H p = none) (h2 : H dx = none) (s : SameB p (upd (upd H dx o1) p o2) H') : Same H H' := fun a o e => s a o (ne_of_none e h1) (lk_ne (ne_of_none e h1) (lk_ne (ne_of_none e h2) e))
theorem SqL.putI {K : PySem.W.Frag} {H : Hp} {p a C dx : Addr} {fs : List (Str × V)} {xs : List V} {o : HO} (hp : H p = some (.ins C dx fs)) (h : SqL K H a xs) : SqL K (upd H p o) a xs := by
  rcases h with (e | ⟨u, e⟩) | e
  · exact .inl (.inl (lk_df e hp (fun z => by cases z)))
  · exact .inl (.inr ⟨u, lk_df e hp (fun z => by cases z)⟩)
  · exact .inr e
theorem SqT.putI {K : PySem.W.Frag} {H : Hp} {p a C dx : Addr} {fs : List (Str × V)} {xs : List V} {o : HO} (hp : H p = some (.ins C dx fs)) (h : SqT K H a xs) : SqT K (upd H p o) a xs := by
  rcases h with (e | ⟨u, e⟩) | e
  · exact .inl (.inl (lk_df e hp (fun z => by cases z)))
  · exact .inl (.inr ⟨u, lk_df e hp (fun z => by cases z)⟩)
  · exact .inr e
/-- a list or a tuple -/
def SqA (K : PySem.W.Frag) (H : Hp) (a : Addr) (xs : List V) : Prop := SqL K H a xs ∨ SqT K H a xs
theorem SqA.same {K : PySem.W.Frag} {H H' : Hp} {a : Addr} {xs : List V} (s : Same H H') (h : SqA K H a xs) : SqA K H' a xs := h.imp (Same.seq s) (Same.sqT s)
theorem SqA.putI {K : PySem.W.Frag} {H : Hp} {p a C dx : Addr} {fs : List (Str × V)} {xs : List V} {o : HO} (hp : H p = some (.ins C dx fs)) (h : SqA K H a xs) : SqA K (upd H p o) a xs := h.imp (SqL.putI hp) (SqT.putI hp)
theorem z_tupleA {K : PySem.W.Frag} {H : Hp} {Q : VK} {a : Addr} {xs : List V} (h : SqA K H a xs) (k : ∀ t H', Same H H' → SqT K H' t xs → Q (.ref t) H') : uTuple K [.ref a] H Q := by
  rcases h with h | h
  · exact z_tupleL h fun t ht => k t _ (Same.new ht (Same.refl H)) (SqT.of upd_same)
  · exact z_tupleT h (k a H (Same.refl H) h)
/-! ### pairs, given and kept -/
abbrev PairAt (K : PySem.W.Frag) (H : Hp) (q : Addr) (x : V × V) : Prop := SqT K H q [x.1, x.2]
def PairsA (K : PySem.W.Frag) (H : Hp) (a : Addr) (l : List (V × V)) : Prop := ∃ ps : List Addr, SqA K H a (ps.map V.ref) ∧ All2 (PairAt K H) ps l
def PairsT (K : PySem.W.Frag) (H : Hp) (a : Addr) (l : List (V × V)) : Prop := ∃ ps : List Addr, SqT K H a (ps.map V.ref) ∧ All2 (PairAt K H) ps l
theorem PairsA.same {K : PySem.W.Frag} {H H' : Hp} {a : Addr} {l : List (V × V)} (s : Same H H') (h : PairsA K H a l) : PairsA K H' a l := ⟨h.choose, h.choose_spec.1.same s, All2.imp (fun _ _ e => Same.sqT s e) h.choose_spec.2⟩
theorem PairsT.same {K : PySem.W.Frag} {H H' : Hp} {a : Addr} {l : List (V × V)} (s : Same H H') (h : PairsT K H a l) : PairsT K H' a l := ⟨h.choose, Same.sqT s h.choose_spec.1, All2.imp (fun _ _ e => Same.sqT s e) h.choose_spec.2⟩
theorem PairsA.putI {K : PySem.W.Frag} {H : Hp} {p a C dx : Addr} {fs : List (Str × V)} {l : List (V × V)} {o : HO} (hp : H p = some (.ins C dx fs)) (h : PairsA K H a l) : PairsA K (upd H p o) a l := ⟨h.choose, h.choose_spec.1.putI hp, All2.imp (fun _ _ e => SqT.putI hp e) h.choose_spec.2⟩
theorem PairsT.putI {K : PySem.W.Frag} {H : Hp} {p a C dx : Addr} {fs : List (Str × V)} {l : List (V × V)} {o : HO} (hp : H p = some (.ins C dx fs)) (h : PairsT K H a l) : PairsT K (upd H p o) a l := ⟨h.choose, SqT.putI hp h.choose_spec.1, All2.imp (fun _ _ e => SqT.putI hp e) h.choose_spec.2⟩
theorem PairsA.e {K : PySem.W.Frag} {H : Hp} {a : Addr} (h : SqT K H a []) : PairsA K H a [] := ⟨[], .inr h, .nil⟩
/-- [(x, y) for x, y in pairs] -/
theorem z_lcPairs {K : PySem.W.Frag} {a : Addr} {l : List (V × V)} {σ : L2.St} {u v : Nat} {H : Hp} {Q : VK} (e : PairsA K H a l) (hn : l.length ≤ 1000) (hu : u < σ.length) (hv : v < σ.length) (huv : u ≠ v)
    (q : ∀ (r : Addr) H', H r = none → Same H H' → (∃ ps : List Addr, H' r = some (.lst (ps.map V.ref)) ∧ All2 (PairAt K H') ps l) → Q (.ref r) H') :
    zLcS K (gTup K 2 (gCons (gName u) (gCons (gName v) gNil))) tYes (tTup (tCons (tVar u) (tCons (tVar v) tNil))) [u, v] σ (.ref a) H Q := by
  obtain ⟨ps, e, r⟩ := e
  have hl := All2.len r
  have wp : ∀ x y : Option V, wipe (((wipe σ [u, v]).set u x).set v y) [u, v] = wipe σ [u, v] := fun x y => by
    show ((((((σ.set v none).set u none).set u x).set v y).set v none).set u none) = (σ.set v none).set u none
    rw [List.set_set, List.set_set, List.set_comm _ _ huv, List.set_set, List.set_set]
  have vu : ∀ x y : V, (((wipe σ [u, v]).set u (some x)).set v (some y))[u]? = some (some x) := fun x y => by
    show ((((σ.set v none).set u none).set u (some x)).set v (some y))[u]? = _
    rw [List.getElem?_set_ne huv.symm, List.getElem?_set_self (by simpa using hu)]
  have vv : ∀ x y : V, (((wipe σ [u, v]).set u (some x)).set v (some y))[v]? = some (some y) := fun x y => by
    show ((((σ.set v none).set u none).set u (some x)).set v (some y))[v]? = _
    rw [List.getElem?_set_self (by simpa using hv)]
  have turn : ∀ (C : Addr) (i : Nat) (x : V) (H' : Hp), H C = none → (ps.map V.ref)[i]? = some x → (Same H H' ∧ ∃ ms : List Addr, H' C = some (.lst (ms.map V.ref)) ∧ All2 (PairAt K H') ms (l.take i)) →
      gTup K 2 (gCons (gName u) (gCons (gName v) gNil)) x (wipe σ [u, v]) H' fun σ2 H2 => wipe σ2 [u, v] = wipe σ [u, v] ∧ tYes σ2 H2 fun b H3 =>
        if b = true then tTup (tCons (tVar u) (tCons (tVar v) tNil)) σ2 H3 fun y H4 => ∃ acc, H4 C = some (.lst acc) ∧ acc.length < sizeLine ∧ (Same H (upd H4 C (.lst (acc ++ [y]))) ∧ ∃ ms : List Addr, upd H4 C (.lst (acc ++ [y])) C = some (.lst (ms.map V.ref)) ∧ All2 (PairAt K (upd H4 C (.lst (acc ++ [y])))) ms (l.take (i + 1))) else (Same H H3 ∧ ∃ ms : List Addr, H3 C = some (.lst (ms.map V.ref)) ∧ All2 (PairAt K H3) ms (l.take (i + 1))) := by
    rintro C i x H' hC hx ⟨s, ms, eC, rm⟩
    obtain ⟨hi, rfl⟩ := map_ref hx
    have hi2 : i < l.length := by omega
    have lm := All2.len rm
    refine z_gTup2 (Same.sqT s (All2.atD r 0 (V.non, V.non) hi2)) ?_
    refine ⟨wp _ _, ?_⟩
    refine z_yes ?_
    rw [if_pos rfl]
    refine z_tup (z_cons (z_var (vu _ _) (z_cons (z_var (vv _ _) (z_nil ?_)))))
    refine z_newT (by simp) fun t ht => ?_
    refine z_accum (lk_new ht eC) (by rw [List.length_map, lm, List.length_take]; omega) ?_
    refine ⟨Same.put hC (Same.new ht s), ms ++ [t], by rw [upd_same, ref_app], ?_⟩
    rw [take_dS (V.non, V.non) hi2]
    have eC2 := lk_new (o := .tup [(l.getD i (V.non, V.non)).1, (l.getD i (V.non, V.non)).2]) ht eC
    have put : ∀ {q : Addr} {xs : List V}, SqT K (upd H' t (.tup [(l.getD i (V.non, V.non)).1, (l.getD i (V.non, V.non)).2])) q xs → SqT K (upd (upd H' t (.tup [(l.getD i (V.non, V.non)).1, (l.getD i (V.non, V.non)).2])) C (.lst (ms.map V.ref ++ [.ref t]))) q xs := fun {q xs} h => by
      rcases h with (h | ⟨o, h⟩) | h
      · exact .inl (.inl (lk_df h eC2 (fun z => by cases z)))
      · exact .inl (.inr ⟨o, lk_df h eC2 (fun z => by cases z)⟩)
      · exact .inr h
    exact (All2.imp (fun _ _ h => put (sqT_new ht h)) rm).app (put (SqT.of upd_same))
  have fin : ∀ (C : Addr) (H' : Hp), H C = none → (Same H H' ∧ ∃ ms : List Addr, H' C = some (.lst (ms.map V.ref)) ∧ All2 (PairAt K H') ms (l.take (ps.map V.ref).length)) → Q (.ref C) H' := by
    rintro C H' hC ⟨s, ms, eC, rm⟩
    rw [List.length_map, hl, List.take_length] at rm
    exact q C H' hC s ⟨ms, eC, rm⟩
  have st : ∀ C, H C = none → (Same H (upd H C (.lst [])) ∧ ∃ ms : List Addr, upd H C (.lst []) C = some (.lst (ms.map V.ref)) ∧ All2 (PairAt K (upd H C (.lst []))) ms (l.take 0)) := fun C hC => ⟨Same.new hC (Same.refl H), [], upd_same, .nil⟩
  rcases e with e | e
  · exact z_lcl e (fun C i H' => Same H H' ∧ ∃ ms : List Addr, H' C = some (.lst (ms.map V.ref)) ∧ All2 (PairAt K H') ms (l.take i)) st (fun C i H' _ _ z => Same.seq z.1 e) turn fin
  · exact z_lct e (fun C i H' => Same H H' ∧ ∃ ms : List Addr, H' C = some (.lst (ms.map V.ref)) ∧ All2 (PairAt K H') ms (l.take i)) st (fun C i H' _ _ z => Same.sqT z.1 e) turn fin
/-! ### records -/
abbrev recF (n : Str) (tv tf tw : Addr) : List (Str × V) := [("name", .str n), ("vector", .ref tv), ("fields", .ref tf), ("words", .ref tw)]
abbrev REC : List Str := ["name", "vector", "fields", "words"]
def RecAt (K : PySem.W.Frag) (c : CEnv) (H : Hp) (p : Addr) (n : Str) (xs : List Int) (fl ws : List (V × V)) : Prop := ∃ tv tf tw, InsAt K c H p "Record" (recF n tv tf tw) ∧ SqT K H tv (xs.map V.int) ∧ PairsT K H tf fl ∧ PairsT K H tw ws
theorem RecAt.same {K : PySem.W.Frag} {c : CEnv} {H H' : Hp} {p : Addr} {n : Str} {xs : List Int} {fl ws : List (V × V)} (s : Same H H') (h : RecAt K c H p n xs fl ws) : RecAt K c H' p n xs fl ws := by
  obtain ⟨tv, tf, tw, a, b, d, e⟩ := h
  exact ⟨tv, tf, tw, a.same s, Same.sqT s b, d.same s, e.same s⟩
abbrev N_Record_init : List Str := ["self", "name", "vector", "fields", "words", "field", "worth", "word", "count"]
-- Record.__init__(self, name, vector, fields, words): slots 0:self 1:name 2:vector 3:fields 4:words 5:field 6:worth 7:word 8:count
def T_Record_init (K : PySem.W.Frag) : TS :=
    (tSeq (sFld K (tVar 0) (tVar 1) "name")
    (tSeq (sFld K (tVar 0) (tCB (uTuple K) (tCons (tVar 2) tNil)) "vector")
    (tSeq (sFld K (tVar 0) (tCB (uTuple K) (tCons (tLc (iSq K (tVar 3)) (gTup K 2 (gCons (gName 5) (gCons (gName 6) gNil))) tYes (tTup (tCons (tVar 5) (tCons (tVar 6) tNil))) [5, 6]) tNil)) "fields")
    (sFld K (tVar 0) (tCB (uTuple K) (tCons (tLc (iSq K (tVar 4)) (gTup K 2 (gCons (gName 7) (gCons (gName 8) gNil))) tYes (tTup (tCons (tVar 7) (tCons (tVar 8) tNil))) [7, 8]) tNil)) "words"))))

def sp_Record_init (K : PySem.W.Frag) (c : CEnv) : Sp := fun vs H Q _ => ∃ (p dx v f w : Addr) (n : Str) (xs : List Int) (fl ws : List (V × V)), vs = [.ref p, .str n, .ref v, .ref f, .ref w] ∧ ClsOk K c "Record" ["name", "vector", "fields", "words"] ∧ H p = some (.ins (c.cls "Record") dx []) ∧ SqA K H v (xs.map V.int) ∧ PairsA K H f fl ∧ PairsA K H w ws ∧ fl.length ≤ 1000 ∧ ws.length ≤ 1000 ∧
  ∀ H', SameB p H H' → RecAt K c H' p n xs fl ws → Q .non H'
theorem Record_init_c {K : PySem.W.Frag} {c : CEnv} {p dx v f w : Addr} {n : Str} {xs : List Int} {fl ws : List (V × V)} {H : Hp} {Q : VK} {E : XK} (ok : ClsOk K c "Record" ["name", "vector", "fields", "words"]) (hp : H p = some (.ins (c.cls "Record") dx [])) (hv : SqA K H v (xs.map V.int)) (hf : PairsA K H f fl) (hw : PairsA K H w ws) (lf : fl.length ≤ 1000) (lw : ws.length ≤ 1000)
    (q : ∀ H', SameB p H H' → RecAt K c H' p n xs fl ws → Q .non H') : sp_Record_init K c [.ref p, .str n, .ref v, .ref f, .ref w] H Q E := ⟨p, dx, v, f, w, n, xs, fl, ws, rfl, ok, hp, hv, hf, hw, lf, lw, q⟩
theorem w_Record_init {K : PySem.W.Frag} {c : CEnv} : Wd (T_Record_init K) N_Record_init 5 (sp_Record_init K c) := fun vs H Q E h => by
  obtain ⟨p, dx, v, f, w, n, xs, fl, ws, rfl, ok, hp, hv, hf, hw, lf, lw, q⟩ := h
  refine ⟨rfl, ?_⟩
  show T_Record_init K _ [some (.ref p), some (.str n), some (.ref v), some (.ref f), some (.ref w), none, none, none, none] H
  unfold T_Record_init
  have s1 := (SameB.refl p H).put (o := .ins (c.cls "Record") dx [("name", .str n)])
  have hv1 := hv.putI (o := .ins (c.cls "Record") dx [("name", .str n)]) hp
  have hf1 := hf.putI (o := .ins (c.cls "Record") dx [("name", .str n)]) hp
  have hw1 := hw.putI (o := .ins (c.cls "Record") dx [("name", .str n)]) hp
  walk_at "zz"
  rw [show putF "name" (V.str n) ([] : List (Str × V)) = ([("name", .str n)] : List (Str × V)) from rfl]
  have e1 : upd H p (.ins (c.cls "Record") dx [("name", .str n)]) p = some (.ins (c.cls "Record") dx [("name", .str n)]) := upd_same
  generalize upd H p (.ins (c.cls "Record") dx [("name", .str n)]) = H1 at *
  refine z_tupleA hv1 fun t H2 s2 et => ?_
  have e2 := s2 _ _ e1
  have b2 := SameB.same s1 s2
  have hf2 := hf1.same s2
  have hw2 := hw1.same s2
  walk_at "zz"
  have b3 := b2.put (o := .ins (c.cls "Record") dx [("name", .str n), ("vector", .ref t)])
  have et3 := SqT.putI (o := .ins (c.cls "Record") dx [("name", .str n), ("vector", .ref t)]) e2 et
  have hf3 := hf2.putI (o := .ins (c.cls "Record") dx [("name", .str n), ("vector", .ref t)]) e2
  have hw3 := hw2.putI (o := .ins (c.cls "Record") dx [("name", .str n), ("vector", .ref t)]) e2
  rw [show putF "vector" (V.ref t) ([("name", .str n)] : List (Str × V)) = ([("name", .str n), ("vector", .ref t)] : List (Str × V)) from rfl]
  have e3 : upd H2 p (.ins (c.cls "Record") dx [("name", .str n), ("vector", .ref t)]) p = some (.ins (c.cls "Record") dx [("name", .str n), ("vector", .ref t)]) := upd_same
  generalize upd H2 p (.ins (c.cls "Record") dx [("name", .str n), ("vector", .ref t)]) = H3 at *
  refine z_lcPairs hf3 lf (by walk_at "few") (by walk_at "few") (by decide) fun r H4 nr s4 hr => ?_
  obtain ⟨ps, er, rp⟩ := hr
  refine z_nil ?_
  refine z_tupleL (SqL.of er) fun u hu => ?_
  have s5 := Same.new (o := .tup (ps.map V.ref)) hu s4
  have ru5 : PairsT K (upd H4 u (.tup (ps.map V.ref))) u fl := ⟨ps, SqT.of upd_same, All2.imp (fun _ _ h => sqT_new hu h) rp⟩
  have e5 := s5 _ _ e3
  have b5 := SameB.same b3 s5
  have et5 := Same.sqT s5 et3
  have hw5 := hw3.same s5
  generalize upd H4 u (.tup (ps.map V.ref)) = H5 at *
  walk_at "zz"
  have b6 := b5.put (o := .ins (c.cls "Record") dx [("name", .str n), ("vector", .ref t), ("fields", .ref u)])
  have et6 := SqT.putI (o := .ins (c.cls "Record") dx [("name", .str n), ("vector", .ref t), ("fields", .ref u)]) e5 et5
  have ru6 := ru5.putI (o := .ins (c.cls "Record") dx [("name", .str n), ("vector", .ref t), ("fields", .ref u)]) e5
  have hw6 := hw5.putI (o := .ins (c.cls "Record") dx [("name", .str n), ("vector", .ref t), ("fields", .ref u)]) e5
  rw [show putF "fields" (V.ref u) ([("name", .str n), ("vector", .ref t)] : List (Str × V)) = ([("name", .str n), ("vector", .ref t), ("fields", .ref u)] : List (Str × V)) from rfl]
  have e6 : upd H5 p (.ins (c.cls "Record") dx [("name", .str n), ("vector", .ref t), ("fields", .ref u)]) p = some (.ins (c.cls "Record") dx [("name", .str n), ("vector", .ref t), ("fields", .ref u)]) := upd_same
  generalize upd H5 p (.ins (c.cls "Record") dx [("name", .str n), ("vector", .ref t), ("fields", .ref u)]) = H6 at *
  refine z_lcPairs hw6 lw (by walk_at "few") (by walk_at "few") (by decide) fun r2 H7 nr2 s7 hr2 => ?_
  obtain ⟨qs, er2, rq⟩ := hr2
  refine z_nil ?_
  refine z_tupleL (SqL.of er2) fun y hy => ?_
  have s8 := Same.new (o := .tup (qs.map V.ref)) hy s7
  have rw8 : PairsT K (upd H7 y (.tup (qs.map V.ref))) y ws := ⟨qs, SqT.of upd_same, All2.imp (fun _ _ h => sqT_new hy h) rq⟩
  have e8 := s8 _ _ e6
  have b8 := SameB.same b6 s8
  have et8 := Same.sqT s8 et6
  have ru8 := ru6.same s8
  generalize upd H7 y (.tup (qs.map V.ref)) = H8 at *
  walk_at "zz"
  refine q _ (b8.put) ⟨t, u, y, ⟨ok, dx, ?_⟩, SqT.putI e8 et8, ru8.putI e8, rw8.putI e8⟩
  rw [upd_same]; rfl

/-! ### signs and names of fields -/
def letC (c : Nat) : Bool := (decide (97 ≤ c) && decide (c ≤ 122)) || ((decide (65 ≤ c) && decide (c ≤ 90)) || c == 95)
def digC (c : Nat) : Bool := decide (48 ≤ c) && decide (c ≤ 57)
theorem lt_one {c d : Nat} : ([c] : List Nat) < [d] ↔ c < d := by
  rw [List.cons_lt_cons_iff]
  constructor
  · rintro (h | ⟨_, h⟩)
    · exact h
    · exact absurd h (List.lt_irrefl _)
  · exact fun h => .inl h
theorem dec_le {c d : Nat} {x y : Str} (hx : x.cps.toList = [c]) (hy : y.cps.toList = [d]) : (!decide (y.cps.toList < x.cps.toList)) = decide (c ≤ d) := by
  rw [hx, hy, Bool.eq_iff_iff]
  simp only [Bool.not_eq_true', decide_eq_false_iff_not, decide_eq_true_iff, lt_one]
  omega
abbrev one (c : Nat) : Str := ⟨#[c]⟩
theorem one_us (c : Nat) : decide (one c = "_") = (c == 95) := by
  rw [show ("_" : Str) = one 95 by decide +kernel, Bool.eq_iff_iff, decide_eq_true_iff, beq_iff_eq]
  constructor
  · intro h; injection h with h; simpa using h
  · intro h; rw [h]
theorem inV_str (x : Str) (ks : List Str) : inV (.str x) (ks.map V.str) = decide (x ∈ ks) := by
  unfold inV
  rw [Bool.eq_iff_iff, List.any_eq_true, decide_eq_true_iff]
  constructor
  · rintro ⟨y, hy, e⟩
    obtain ⟨m, hm, rfl⟩ := List.mem_map.mp hy
    have : m = x := by simpa [eqV] using e
    rw [← this]; exact hm
  · intro h
    exact ⟨.str x, List.mem_map.mpr ⟨x, h, rfl⟩, by simp [eqV]⟩
theorem flat_strs (ks : List Str) : (ks.map V.str).all flatV = true := by
  rw [List.all_eq_true]
  intro x hx
  obtain ⟨m, _, rfl⟩ := List.mem_map.mp hx
  rfl
def WRD : List Str := ["every", "has", "in", "and", "or", "not", "true", "false"]
def KND : List Str := ["integer", "text", "flag"]
def MSR : List Str := ["square", "dot", "bits"]
def fnZ (x : Str) : Bool := !decide (x = "") && (letC (x.cps.toList.headD 0) && (!decide (x ∈ WRD) && x.cps.toList.all fun c => letC c || digC c))
abbrev N_is_letter : List Str := ["sign"]
-- is_letter(sign): slots 0:sign
def T_is_letter (K : PySem.W.Frag) : TS :=
    (tRet (tOrV (tChain uLe uLe (tC (.str "a")) (tVar 0) (tC (.str "z"))) (tOrV (tChain uLe uLe (tC (.str "A")) (tVar 0) (tC (.str "Z"))) (tOp (uEq K) (tVar 0) (tC (.str "_"))))))

def sp_is_letter (K : PySem.W.Frag) : Sp := fun vs H Q _ => ∃ c : Nat, vs = [.str (one c)] ∧ Q (.bl (letC c)) H
theorem is_letter_c {K : PySem.W.Frag} {c : Nat} {H : Hp} {Q : VK} {E : XK} (q : Q (.bl (letC c)) H) : sp_is_letter K [.str (one c)] H Q E := ⟨c, rfl, q⟩
theorem w_is_letter {K : PySem.W.Frag} : Wd (T_is_letter K) N_is_letter 1 (sp_is_letter K) := fun vs H Q E h => by
  obtain ⟨c, rfl, q⟩ := h
  refine ⟨rfl, ?_⟩
  show T_is_letter K _ [some (.str (one c))] H
  unfold T_is_letter
  walk_at "zz"
  rw [dec_le (x := "a") (y := one c) (c := 97) (d := c) rfl rfl]
  have fin : ∀ b1 : Bool, b1 = (decide (97 ≤ c) && decide (c ≤ 122)) → (if b1 = true then (Q (.bl true) H) else (tOrV (tChain uLe uLe (tC (.str "A")) (tVar 0) (tC (.str "Z"))) (tOp (uEq K) (tVar 0) (tC (.str "_")))) [some (.str (one c))] H Q) := by
    intro b1 e1
    cases b1 with
    | true =>
      rw [if_pos rfl]
      unfold letC at q
      rw [← e1, Bool.true_or] at q
      exact q
    | false =>
      rw [if_neg Bool.false_ne_true]
      unfold letC at q
      rw [← e1, Bool.false_or] at q
      walk_at "zz"
      rw [dec_le (x := "A") (y := one c) (c := 65) (d := c) rfl rfl]
      by_cases c1 : 65 ≤ c
      · rw [decide_eq_true c1] at q ⊢
        walk_at "zx"
        rw [dec_le (x := one c) (y := "Z") (c := c) (d := 90) rfl rfl]
        by_cases c2 : c ≤ 90
        · rw [decide_eq_true c2] at q ⊢
          walk_at "zx"
          exact q
        · rw [decide_eq_false c2] at q ⊢
          walk_at "zx"
          rw [one_us]
          simpa using q
      · rw [decide_eq_false c1] at q ⊢
        walk_at "zx"
        rw [one_us]
        simpa using q
  by_cases c1 : 97 ≤ c
  · rw [decide_eq_true c1] at fin ⊢
    walk_at "zx"
    rw [dec_le (x := one c) (y := "z") (c := c) (d := 122) rfl rfl]
    exact fin _ (by simp)
  · rw [decide_eq_false c1] at fin ⊢
    refine z_iteF ?_
    exact ⟨false, rfl, fin false rfl⟩
abbrev N_is_digit : List Str := ["sign"]
-- is_digit(sign): slots 0:sign
def T_is_digit (K : PySem.W.Frag) : TS :=
    (tRet (tChain uLe uLe (tC (.str "0")) (tVar 0) (tC (.str "9"))))

def sp_is_digit (K : PySem.W.Frag) : Sp := fun vs H Q _ => ∃ c : Nat, vs = [.str (one c)] ∧ Q (.bl (digC c)) H
theorem is_digit_c {K : PySem.W.Frag} {c : Nat} {H : Hp} {Q : VK} {E : XK} (q : Q (.bl (digC c)) H) : sp_is_digit K [.str (one c)] H Q E := ⟨c, rfl, q⟩
theorem w_is_digit {K : PySem.W.Frag} : Wd (T_is_digit K) N_is_digit 1 (sp_is_digit K) := fun vs H Q E h => by
  obtain ⟨c, rfl, q⟩ := h
  refine ⟨rfl, ?_⟩
  show T_is_digit K _ [some (.str (one c))] H
  unfold T_is_digit
  walk_at "zz"
  rw [dec_le (x := "0") (y := one c) (c := 48) (d := c) rfl rfl]
  unfold digC at q
  by_cases c1 : 48 ≤ c
  · rw [decide_eq_true c1] at q ⊢
    walk_at "zx"
    rw [dec_le (x := one c) (y := "9") (c := c) (d := 57) rfl rfl]
    simpa using q
  · rw [decide_eq_false c1] at q ⊢
    walk_at "zx"
    exact q
abbrev N_is_field_name : List Str := ["name", "sign"]
-- is_field_name(name): slots 0:name 1:sign
def T_is_field_name_b1 (K : PySem.W.Frag) : TS :=
    (tIfS (tAnd (tNot (tTru K (tCal (sp_is_letter K) (tCons (tVar 1) tNil)))) (tNot (tTru K (tCal (sp_is_digit K) (tCons (tVar 1) tNil))))) (tRet (tC (.bl false))) tNext)
def T_is_field_name (K : PySem.W.Frag) : TS :=
    (tSeq (tIfS (tOr (tTest (tOp (uEq K) (tVar 0) (tC (.str "")))) (tOr (tNot (tTru K (tCal (sp_is_letter K) (tCons (tOp (uIx K) (tVar 0) (tC (.int 0))) tNil)))) (tTest (tOp (uIn K) (tVar 0) (tCstT K [.str "every", .str "has", .str "in", .str "and", .str "or", .str "not", .str "true", .str "false"]))))) (tRet (tC (.bl false))) tNext)
    (tSeq (tFor (iStr (tVar 0)) (gName 1) (T_is_field_name_b1 K))
    (tRet (tC (.bl true)))))

def sp_is_field_name (K : PySem.W.Frag) : Sp := fun vs H Q _ => ∃ x : Str, vs = [.str x] ∧ x.length ≤ 100000 ∧ Q (.bl (fnZ x)) H
theorem is_field_name_c {K : PySem.W.Frag} {x : Str} {H : Hp} {Q : VK} {E : XK} (h : x.length ≤ 100000) (q : Q (.bl (fnZ x)) H) : sp_is_field_name K [.str x] H Q E := ⟨x, rfl, h, q⟩
theorem w_is_field_name {K : PySem.W.Frag} : Wd (T_is_field_name K) N_is_field_name 1 (sp_is_field_name K) := fun vs H Q E h => by
  obtain ⟨x, rfl, hx, q⟩ := h
  refine ⟨rfl, ?_⟩
  show T_is_field_name K _ [some (.str x), none] H
  unfold T_is_field_name
  walk_at "zz"
  by_cases h0 : x = ""
  · rw [decide_eq_true h0]
    walk_at "zx"
    rw [show fnZ x = false by unfold fnZ; rw [decide_eq_true h0]; rfl] at q
    exact q
  rw [decide_eq_false h0]
  walk_at "zx"
  obtain ⟨c0, r, e0⟩ : ∃ c0 r, x.cps.toList = c0 :: r := by
    cases e : x.cps.toList with
    | nil =>
      exfalso
      cases x with
      | mk a =>
        have z : a = #[] := by simpa using e
        subst z
        exact h0 (by decide +kernel)
    | cons c r => exact ⟨c, r, rfl⟩
  refine ⟨c0, Nat.le_trans hx (by decide), by rw [e0]; unfold atI; rw [ix_at (by decide) (by simp)]; rfl, ?_⟩
  walk_at "zz"
  refine is_letter_c ?_
  walk_at "zz"
  cases hl : letC c0 with
  | false =>
    walk_at "zx"
    rw [show fnZ x = false by unfold fnZ; rw [e0]; show (_ && (letC c0 && _)) = false; rw [hl]; simp] at q
    exact q
  | true =>
  walk_at "zx"
  rename_i T hT
  refine z_in (.inr (hT H)) rfl (flat_strs WRD) ?_
  rw [show ([V.str "every", V.str "has", V.str "in", V.str "and", V.str "or", V.str "not", V.str "true", V.str "false"] : List V) = WRD.map V.str from rfl, inV_str]
  by_cases hw : x ∈ WRD
  · rw [decide_eq_true hw]
    walk_at "zx"
    rw [show fnZ x = false by unfold fnZ; rw [decide_eq_true hw]; simp] at q
    exact q
  rw [decide_eq_false hw]
  walk_at "zx"
  have eq : fnZ x = x.cps.toList.all fun c => letC c || digC c := by
    unfold fnZ
    rw [decide_eq_false h0, decide_eq_false hw, e0]
    show (!false && (letC c0 && _)) = _
    rw [hl]; simp
  refine z_txt (fun i σ H' => H' = H ∧ (∀ c ∈ x.cps.toList.take i, (letC c || digC c) = true) ∧ ∃ w, σ = [some (.str x), w]) ⟨rfl, (fun _ h => nomatch h), _, rfl⟩ ?_ ?_
  · rintro i c σ' H' hc ⟨rfl, ok, w, rfl⟩
    have hc2 : x.cps.toList[i]? = some c := by rw [Array.getElem?_toList]; exact hc
    have memc : c ∈ x.cps.toList := List.mem_of_getElem? hc2
    unfold T_is_field_name_b1
    walk_at "zz"
    refine is_letter_c ?_
    walk_at "zz"
    have step : (letC c || digC c) = true → ∀ d ∈ x.cps.toList.take (i + 1), (letC d || digC d) = true := fun h d hd => by
      rw [List.take_succ, hc2] at hd
      rcases List.mem_append.mp hd with hd | hd
      · exact ok d hd
      · have : d = c := by simpa using hd
        rw [this]; exact h
    cases h1 : letC c with
    | true =>
      walk_at "zx"
      exact ⟨rfl, step (by rw [h1]; rfl), _, rfl⟩
    | false =>
      walk_at "zx"
      refine is_digit_c ?_
      walk_at "zz"
      cases h2 : digC c with
      | true =>
        walk_at "zx"
        exact ⟨rfl, step (by rw [h2]; simp), _, rfl⟩
      | false =>
        walk_at "zx"
        have nf : fnZ x = false := by
          rw [eq, Bool.eq_false_iff]
          intro h
          have := List.all_eq_true.mp h c memc
          rw [h1, h2] at this; cases this
        rw [nf] at q
        exact q
  · rintro σ' H' ⟨rfl, ok, w, rfl⟩
    walk_at "zz"
    rw [show fnZ x = true by
      rw [eq, List.all_eq_true]
      intro c hc
      exact ok c (by rw [List.take_of_length_le (by simp)]; exact hc)] at q
    exact q

/-! ### schemas -/
abbrev RNG : List (Str × DV) := [("bit", .t [.int 0, .int 1]), ("small", .t [.int (-128), .int 127]), ("wide", .t [.int (-32768), .int 32767])]
def WDT : List Str := ["bit", "small", "wide"]
theorem look_rng (w : Str) : (RNG.lookup w).isSome = decide (w ∈ WDT) := by
  unfold RNG WDT
  rw [List.lookup_cons, List.lookup_cons, List.lookup_cons, List.lookup_nil]
  by_cases h1 : w = "bit"
  · subst h1; decide +kernel
  by_cases h2 : w = "small"
  · subst h2; decide +kernel
  by_cases h3 : w = "wide"
  · subst h3; decide +kernel
  rw [beq_eq_false_iff_ne.mpr h1, beq_eq_false_iff_ne.mpr h2, beq_eq_false_iff_ne.mpr h3]
  simp [h1, h2, h3]
def fV (fl : List (Str × Str)) : List (V × V) := fl.map fun x => (.str x.1, .str x.2)
structure SchGood (size : Int) (w m : Str) (fl : List (Str × Str)) : Prop where
  sz : 1 ≤ size
  wd : w ∈ WDT
  ms : m ∈ MSR
  bt : m = "bits" → w = "bit"
  nd : (fl.map (·.1)).Nodup
  fd : ∀ x ∈ fl, x.2 ∈ KND ∧ fnZ x.1 = true
abbrev SCH : List Str := ["size", "width", "measure", "fields"]
abbrev schF (size : Int) (w m : Str) (tf : Addr) : List (Str × V) := [("size", .int size), ("width", .str w), ("measure", .str m), ("fields", .ref tf)]
def SchAt (K : PySem.W.Frag) (c : CEnv) (H : Hp) (p : Addr) (size : Int) (w m : Str) (fl : List (Str × Str)) : Prop := ∃ tf, InsAt K c H p "Schema" (schF size w m tf) ∧ PairsT K H tf (fV fl)
theorem SchAt.same {K : PySem.W.Frag} {c : CEnv} {H H' : Hp} {p : Addr} {size : Int} {w m : Str} {fl : List (Str × Str)} (s : Same H H') (h : SchAt K c H p size w m fl) : SchAt K c H' p size w m fl := let ⟨t, a, b⟩ := h; ⟨t, a.same s, b.same s⟩
/-- over a list or a tuple that stood in an earlier heap -/
theorem z_forA {K : PySem.W.Frag} {σ : L2.St} {H0 H : Hp} {D : Ends} {g : TG} {tb : TS} {a : Addr} {xs : List V} (h : SqA K H0 a xs) (s0 : Same H0 H) (Pv : Nat → L2.St → Hp → Prop) (h0 : Pv 0 σ H) (hk : ∀ i σ' H', Pv i σ' H' → Same H0 H')
    (hs : ∀ i x σ' H', xs[i]? = some x → Pv i σ' H' → g x σ' H' fun σ2 H2 => tb { D with nx := Pv (i + 1), ct := Pv (i + 1), bk := D.nx } σ2 H2) (hd : ∀ σ' H', Pv xs.length σ' H' → D.nx σ' H') : zForS K g tb D σ (.ref a) H := by
  rcases h with h | h
  · exact z_forL (Same.seq s0 h) Pv h0 (fun i σ' H' _ p => Same.seq (hk i σ' H' p) h) hs hd
  · exact z_forT (Same.sqT s0 h) Pv h0 (fun i σ' H' _ p => Same.sqT (hk i σ' H' p) h) hs hd
abbrev dF : Str × Str := ("", "")
theorem fV_at {fl : List (Str × Str)} {i : Nat} (h : i < fl.length) : (fV fl).getD i (V.non, V.non) = (.str (fl.getD i dF).1, .str (fl.getD i dF).2) := by
  unfold fV
  rw [List.getD_eq_getElem?_getD, List.getElem?_map, List.getD_eq_getElem?_getD, List.getElem?_eq_getElem h]; rfl
abbrev N_Schema_init : List Str := ["self", "size", "width", "measure", "fields", "names", "name", "kind"]
-- Schema.__init__(self, size, width, measure, fields): slots 0:self 1:size 2:width 3:measure 4:fields 5:names 6:name 7:kind
def T_Schema_init_b1 (K : PySem.W.Frag) (c : CEnv) (W : WX) : TS :=
    (tSeq (tIfS (tOr (tTest (tOp (uNotIn K) (tVar 7) (tCstT K [.str "integer", .str "text", .str "flag"]))) (tOr (tNot (tTru K (tCal (sp_is_field_name K) (tCons (tVar 6) tNil)))) (tTest (tOp (uIn K) (tVar 6) (tVar 5))))) (sRaise c "InvalidSchema" W) tNext)
    (tDrop (tBM K "list" rAppend (tVar 5) (tCons (tVar 6) tNil))))
def T_Schema_init (K : PySem.W.Frag) (c : CEnv) (W : WX) : TS :=
    (tSeq (tIfS (tOr (tTest (tOp (uLt K) (tVar 1) (tC (.int 1)))) (tOr (tTest (tKout [("bit", .t [.int 0, .int 1]), ("small", .t [.int (-128), .int 127]), ("wide", .t [.int (-32768), .int 32767])] (tVar 2))) (tTest (tOp (uNotIn K) (tVar 3) (tCstT K [.str "square", .str "dot", .str "bits"]))))) (sRaise c "InvalidSchema" W) tNext)
    (tSeq (tIfS (tAnd (tTest (tOp (uEq K) (tVar 3) (tC (.str "bits")))) (tTest (tOp (uNe K) (tVar 2) (tC (.str "bit"))))) (sRaise c "InvalidSchema" W) tNext)
    (tSeq (tAsg (tLst tNil) (gName 5))
    (tSeq (tFor (iSq K (tVar 4)) (gTup K 2 (gCons (gName 6) (gCons (gName 7) gNil))) (T_Schema_init_b1 K c W))
    (tSeq (sFld K (tVar 0) (tVar 1) "size")
    (tSeq (sFld K (tVar 0) (tVar 2) "width")
    (tSeq (sFld K (tVar 0) (tVar 3) "measure")
    (sFld K (tVar 0) (tCB (uTuple K) (tCons (tLc (iSq K (tVar 4)) (gTup K 2 (gCons (gName 6) (gCons (gName 7) gNil))) tYes (tTup (tCons (tVar 6) (tCons (tVar 7) tNil))) [6, 7]) tNil)) "fields"))))))))

def sp_Schema_init (K : PySem.W.Frag) (c : CEnv) : Sp := fun vs H Q E => ∃ (p dx f : Addr) (size : Int) (w m : Str) (fl : List (Str × Str)), vs = [.ref p, .int size, .str w, .str m, .ref f] ∧ ClsOk K c "Schema" ["size", "width", "measure", "fields"] ∧ H p = some (.ins (c.cls "Schema") dx []) ∧
  (∀ H', SameB p H H' → PairsA K H' f (fV fl)) ∧ fl.length ≤ 1000 ∧ (∀ x ∈ fl, x.1.length ≤ 100000) ∧
  (SchGood size w m fl → ∀ H', SameB p H H' → SchAt K c H' p size w m fl → Q .non H') ∧ (¬ SchGood size w m fl → ∀ H', SameB p H H' → E (.ref (c.cls "InvalidSchema")) none H')
theorem w_Schema_init {K : PySem.W.Frag} {c : CEnv} : WdX (T_Schema_init K c) N_Schema_init 5 (sp_Schema_init K c) := fun vs H Q E h => by
  obtain ⟨p, dx, f, size, w, m, fl, rfl, ok, hp, hf, hn, hln, good, bad⟩ := h
  refine ⟨rfl, ?_⟩
  show T_Schema_init K c _ _ [some (.ref p), some (.int size), some (.str w), some (.str m), some (.ref f), none, none, none] H
  have b0 := SameB.refl p H
  unfold T_Schema_init
  walk_at "zz"
  by_cases h1 : size < 1
  · rw [decide_eq_true h1]
    walk_at "zx"
    exact bad (fun g => by have := g.sz; omega) H b0
  rw [decide_eq_false h1]
  walk_at "zx"
  rw [show ([("bit", DV.t [.int 0, .int 1]), ("small", .t [.int (-128), .int 127]), ("wide", .t [.int (-32768), .int 32767])] : List (Str × DV)) = RNG from rfl, look_rng]
  by_cases h2 : w ∈ WDT
  case neg =>
    rw [decide_eq_false h2]
    walk_at "zx"
    exact bad (fun g => h2 g.wd) H b0
  rw [decide_eq_true h2]
  walk_at "zx"
  rename_i T1 hT1
  refine z_notIn (.inr (hT1 H)) rfl (flat_strs MSR) ?_
  rw [show ([V.str "square", V.str "dot", V.str "bits"] : List V) = MSR.map V.str from rfl, inV_str]
  by_cases h3 : m ∈ MSR
  case neg =>
    rw [decide_eq_false h3]
    walk_at "zx"
    exact bad (fun g => h3 g.ms) H b0
  rw [decide_eq_true h3]
  walk_at "zx"
  have cont : (m = "bits" → w = "bit") → ∀ N, H N = none → zForS K (gTup K 2 (gCons (gName 6) (gCons (gName 7) gNil))) (T_Schema_init_b1 K c (fun cls d x H => E cls d H)) { nx := (tSeq (sFld K (tVar 0) (tVar 1) "size") (tSeq (sFld K (tVar 0) (tVar 2) "width") (tSeq (sFld K (tVar 0) (tVar 3) "measure") (sFld K (tVar 0) (tCB (uTuple K) (tCons (tLc (iSq K (tVar 4)) (gTup K 2 (gCons (gName 6) (gCons (gName 7) gNil))) tYes (tTup (tCons (tVar 6) (tCons (tVar 7) tNil))) [6, 7]) tNil)) "fields"))) { nx := fun _ H' => Q .non H', rt := Q }), rt := Q } [some (.ref p), some (.int size), some (.str w), some (.str m), some (.ref f), some (.ref N), none, none] (.ref f) (upd H N (.lst [])) := by
    intro hb N hN
    have bN := b0.new (o := .lst []) hN
    obtain ⟨ps, hps, rps⟩ := hf H b0
    have lps := All2.len rps
    have lfv : (fV fl).length = fl.length := by simp [fV]
    have sN : Same H (upd H N (.lst [])) := Same.new hN (Same.refl H)
    refine z_forA hps sN (fun i σ H' => Same H H' ∧ H' N = some (.lst (((fl.map (·.1)).take i).map V.str)) ∧ ((fl.map (·.1)).take i).Nodup ∧ (∀ x ∈ fl.take i, x.2 ∈ KND ∧ fnZ x.1 = true) ∧ ∃ w6 w7 : Option V, σ = [some (.ref p), some (.int size), some (.str w), some (.str m), some (.ref f), some (.ref N), w6, w7])
      ⟨sN, upd_same, by simp, (fun _ h => nomatch h), _, _, rfl⟩ (fun i σ' H' z => z.1) ?_ ?_
    · rintro i x σ' H' hx ⟨s, eN, nd, ok2, w6, w7, rfl⟩
      obtain ⟨hi, rfl⟩ := map_ref hx
      have hi2 : i < fl.length := by omega
      have bH := SameB.same b0 s
      have memi := getD_mem' dF hi2
      have ep := All2.atD rps 0 (V.non, V.non) (show i < (fV fl).length by omega)
      rw [fV_at hi2] at ep
      have e1 : (fl.map (·.1)).getD i ("" : Str) = (fl.getD i dF).1 := by
        rw [List.getD_eq_getElem?_getD, List.getElem?_map, List.getD_eq_getElem?_getD, List.getElem?_eq_getElem hi2]; rfl
      have tk : (fl.map (·.1)).take (i + 1) = (fl.map (·.1)).take i ++ [(fl.getD i dF).1] := by
        rw [take_dS ("" : Str) (by simpa using hi2), e1]
      refine z_gTup2 (Same.sqT s ep) ?_
      unfold T_Schema_init_b1
      walk_at "zz"
      rename_i T2 hT2
      refine z_notIn (.inr (hT2 _)) rfl (flat_strs KND) ?_
      rw [show ([V.str "integer", V.str "text", V.str "flag"] : List V) = KND.map V.str from rfl, inV_str]
      by_cases c1 : (fl.getD i dF).2 ∈ KND
      case neg =>
        rw [decide_eq_false c1]
        walk_at "zx"
        exact bad (fun g => c1 (g.fd _ memi).1) _ bH
      rw [decide_eq_true c1]
      walk_at "zx"
      refine is_field_name_c (hln _ memi) ?_
      walk_at "zz"
      cases c2 : fnZ (fl.getD i dF).1 with
      | false =>
        walk_at "zx"
        exact bad (fun g => by have := (g.fd _ memi).2; rw [c2] at this; cases this) _ bH
      | true =>
      walk_at "zx"
      refine z_in (.inl (SqL.of eN)) rfl (flat_strs _) ?_
      rw [inV_str]
      by_cases c3 : (fl.getD i dF).1 ∈ (fl.map (·.1)).take i
      · rw [decide_eq_true c3]
        walk_at "zx"
        refine bad (fun g => ?_) _ bH
        have nd2 : ((fl.map (·.1)).take (i + 1)).Nodup := g.nd.sublist (List.take_sublist _ _)
        rw [tk, List.nodup_append] at nd2
        exact nd2.2.2 _ c3 _ (List.mem_singleton.mpr rfl) rfl
      · rw [decide_eq_false c3]
        walk_at "zx"
        refine z_app eN (by rw [List.length_map, List.length_take]; omega) ?_
        refine ⟨Same.put hN s, ?_, ?_, ?_, _, _, rfl⟩
        · rw [upd_same, tk, List.map_append]; rfl
        · rw [tk, List.nodup_append]
          refine ⟨nd, by simp, fun a ha b hb e => ?_⟩
          rw [List.mem_singleton.mp hb] at e
          subst e; exact c3 ha
        · rw [take_dS dF hi2]
          intro x hx
          rcases List.mem_append.mp hx with h | h
          · exact ok2 x h
          · rw [List.mem_singleton.mp h]; exact ⟨c1, c2⟩
    · rintro σ' H1 ⟨s1, eN, nd, ok2, w6, w7, rfl⟩
      rw [List.length_map, lps, lfv] at nd ok2
      rw [List.take_of_length_le (by simp)] at nd
      rw [List.take_length] at ok2
      have G : SchGood size w m fl := ⟨by omega, h2, h3, hb, nd, ok2⟩
      have hp1 := s1 _ _ hp
      have b1 := SameB.same b0 s1
      walk_at "zz"
      rw [upd_upd, upd_upd, show putF "measure" (V.str m) (putF "width" (V.str w) (putF "size" (V.int size) [])) = ([("size", .int size), ("width", .str w), ("measure", .str m)] : List (Str × V)) from rfl]
      have b2 := b1.put (o := .ins (c.cls "Schema") dx [("size", .int size), ("width", .str w), ("measure", .str m)])
      have e2 : upd H1 p (.ins (c.cls "Schema") dx [("size", .int size), ("width", .str w), ("measure", .str m)]) p = some (.ins (c.cls "Schema") dx [("size", .int size), ("width", .str w), ("measure", .str m)]) := upd_same
      generalize upd H1 p (.ins (c.cls "Schema") dx [("size", .int size), ("width", .str w), ("measure", .str m)]) = H2 at *
      refine z_lcPairs (hf _ b2) (by omega) (by walk_at "few") (by walk_at "few") (by decide) fun r H3 nr s3 hr => ?_
      obtain ⟨qs, er, rq⟩ := hr
      refine z_nil ?_
      refine z_tupleL (SqL.of er) fun u hu => ?_
      have s4 := Same.new (o := .tup (qs.map V.ref)) hu s3
      have ru4 : PairsT K (upd H3 u (.tup (qs.map V.ref))) u (fV fl) := ⟨qs, SqT.of upd_same, All2.imp (fun _ _ h => sqT_new hu h) rq⟩
      have e4 := s4 _ _ e2
      have b4 := SameB.same b2 s4
      generalize upd H3 u (.tup (qs.map V.ref)) = H4 at *
      walk_at "zz"
      refine good G _ b4.put ⟨u, ⟨ok, dx, ?_⟩, ru4.putI e4⟩
      rw [upd_same]; rfl
  by_cases h4 : m = "bits"
  · rw [decide_eq_true h4]
    walk_at "zx"
    by_cases h5 : w = "bit"
    · rw [decide_eq_true h5]
      walk_at "zx"
      exact cont (fun _ => h5) _ (by assumption)
    · rw [decide_eq_false h5]
      walk_at "zx"
      exact bad (fun g => h5 (g.bt h4)) H b0
  · rw [decide_eq_false h4]
    walk_at "zx"
    exact cont (fun h => absurd h h4) _ (by assumption)

def FldsOk (fl : List (Str × Str)) : Prop := (fl.map (·.1)).Nodup ∧ ∀ x ∈ fl, x.2 ∈ KND ∧ fnZ x.1 = true ∧ x.1.length ≤ 100
def FldsAt (H : Hp) (f : Addr) (fl : List (Str × Str)) : Prop := ∃ ps : List Addr, H f = some (.lst (ps.map V.ref)) ∧ All2 (fun q (x : Str × Str) => H q = some (.tup [.str x.1, .str x.2])) ps fl
theorem FldsAt.exd {H H' : Hp} {f : Addr} {fl : List (Str × Str)} (x : ExD H H') (h : FldsAt H f fl) : FldsAt H' f fl := ⟨h.choose, x _ _ NotSt.refs h.choose_spec.1, All2.imp (fun _ _ e => x _ _ NotSt.tup e) h.choose_spec.2⟩
theorem FldsAt.same {H H' : Hp} {f : Addr} {fl : List (Str × Str)} (x : Same H H') (h : FldsAt H f fl) : FldsAt H' f fl := ⟨h.choose, x _ _ h.choose_spec.1, All2.imp (fun _ _ e => x _ _ e) h.choose_spec.2⟩
theorem FldsAt.pairs {K : PySem.W.Frag} {H : Hp} {f : Addr} {fl : List (Str × Str)} (h : FldsAt H f fl) : PairsA K H f (fV fl) := by
  obtain ⟨ps, e, r⟩ := h
  refine ⟨ps, .inl (SqL.of e), ?_⟩
  clear e
  induction r with
  | nil => exact .nil
  | cons h t ih => exact .cons (SqT.of h) ih
theorem str_at {ks : List Str} {i : Int} (h0 : 0 ≤ i) (h1 : i < ks.length) : atI (ks.map V.str) i = some (.str (ks.getD i.toNat "")) := by
  unfold atI
  rw [ix_at h0 (by simpa using h1)]
  have : i.toNat < ks.length := by omega
  simp [List.getD, this]
theorem z_indexS {K : PySem.W.Frag} {H : Hp} {Q : VK} {a : Addr} {ks : List Str} {x : Str} {j : Nat} (h : SqL K H a (ks.map V.str)) (hj : ks[j]? = some x) (no : ∀ m, m < j → ks[m]? ≠ some x) (k : Q (.int (j : Nat)) H) : rIndex K (.ref a) [.str x] H Q := by
  refine z_index h rfl (flat_strs ks) (z := .str x) (by rw [List.getElem?_map, hj]; rfl) (by simp [eqV]) (fun m z' hm hz => ?_) k
  rw [List.getElem?_map] at hz
  cases e : ks[m]? with
  | none => rw [e] at hz; cases hz
  | some y =>
    rw [e] at hz
    cases hz
    have : y ≠ x := fun z => no m hm (by rw [e, z])
    simp [eqV, this]
def lowW (w : Str) : Int := if w = "bit" then 0 else if w = "small" then -128 else -32768
def highW (w : Str) : Int := if w = "bit" then 1 else if w = "small" then 127 else 32767
theorem low_high (w : Str) : -32768 ≤ lowW w ∧ lowW w ≤ 0 ∧ 1 ≤ highW w ∧ highW w ≤ 32767 := by
  unfold lowW highW
  split <;> (try split) <;> omega
theorem at_intj {xs : List Int} {j : Nat} {v : Int} (h : xs[j]? = some v) : atI (xs.map V.int) (j : Int) = some (.int v) := by
  obtain ⟨l, e⟩ := List.getElem?_eq_some_iff.mp h
  rw [at_int (by omega) (by omega), Int.toNat_natCast, List.getD_eq_getElem?_getD, h]; rfl
theorem wd_ix {w : Str} (h : w ∈ WDT) : ∃ j : Nat, j < 3 ∧ WDT[j]? = some w ∧ (∀ m, m < j → WDT[m]? ≠ some w) ∧ ([0, -128, -32768] : List Int)[j]? = some (lowW w) ∧ ([1, 127, 32767] : List Int)[j]? = some (highW w) := by
  have : w = "bit" ∨ w = "small" ∨ w = "wide" := by simpa [WDT] using h
  rcases this with rfl | rfl | rfl
  · exact ⟨0, by decide, rfl, (fun m h => nomatch h), by decide +kernel, by decide +kernel⟩
  · exact ⟨1, by decide, rfl, by decide +kernel, by decide +kernel, by decide +kernel⟩
  · exact ⟨2, by decide, rfl, by decide +kernel, by decide +kernel, by decide +kernel⟩

abbrev N_Schema_far : List Str := ["self", "a", "b"]
-- Schema.far(self, a, b): slots 0:self 1:a 2:b
def T_Schema_far (K : PySem.W.Frag) : TS :=
    (tSeq (tIfS (tTest (tOp (uEq K) (tFld K (tVar 0) "measure") (tC (.str "square")))) (tRet (tCal (sp_distance K) (tCons (tVar 1) (tCons (tVar 2) tNil)))) tNext)
    (tSeq (tIfS (tTest (tOp (uEq K) (tFld K (tVar 0) "measure") (tC (.str "dot")))) (tRet (tUn uNeg (tCal (sp_inner K) (tCons (tVar 1) (tCons (tVar 2) tNil))))) tNext)
    (tRet (tCal (sp_differing K) (tCons (tVar 1) (tCons (tVar 2) tNil))))))

def farZ (m : Str) (xs ys : List Int) : Int := if m = "square" then distZ xs ys else if m = "dot" then -innerZ xs ys else diffZ xs ys
def sp_Schema_far (K : PySem.W.Frag) (c : CEnv) : Sp := fun vs H Q _ => ∃ (p a b : Addr) (size : Int) (w m : Str) (fl : List (Str × Str)) (xs ys : List Int), vs = [.ref p, .ref a, .ref b] ∧ SchAt K c H p size w m fl ∧ Two K H a b xs ys ∧ xs.length = ys.length ∧ Bd 100000000000000000 xs ∧ Bd 100000000000000000 ys ∧ ∀ H', Same H H' → Q (.int (farZ m xs ys)) H'
theorem w_Schema_far {K : PySem.W.Frag} {c : CEnv} : Wd (T_Schema_far K) N_Schema_far 3 (sp_Schema_far K c) := fun vs H Q E h => by
  obtain ⟨p, a, b, size, w, m, fl, xs, ys, rfl, ⟨tf, ⟨ok, dx, e⟩, _⟩, two, hl, b1, b2, q⟩ := h
  refine ⟨rfl, ?_⟩
  show T_Schema_far K _ [some (.ref p), some (.ref a), some (.ref b)] H
  unfold T_Schema_far
  unfold farZ at q
  walk_at "zz"
  by_cases h1 : m = "square"
  · rw [if_pos h1] at q
    rw [decide_eq_true h1]
    walk_at "zx"
    exact distance_c two hl b1 b2 q
  rw [if_neg h1] at q
  rw [decide_eq_false h1]
  walk_at "zx"
  by_cases h2 : m = "dot"
  · rw [if_pos h2] at q
    rw [decide_eq_true h2]
    walk_at "zx"
    refine inner_c two hl b1 b2 fun H' s => ?_
    walk_at "zz"
    exact q H' s
  rw [if_neg h2] at q
  rw [decide_eq_false h2]
  walk_at "zx"
  exact differing_c two hl b1 b2 q
abbrev N_law_fields : List Str := ["_law_state", "_law_fields_here", "_law_k", "_law_name_here"]
-- _law_fields(_law_state): slots 0:_law_state 1:_law_fields_here 2:_law_k 3:_law_name
def T_law_fields_b1 (K : PySem.W.Frag) : TS :=
    (tSeq (tAsg (tOp (uIx K) (tLst (tCons (tC (.str "a")) (tCons (tC (.str "b")) (tCons (tC (.str "note")) (tCons (tC (.str "_x")) tNil))))) (tVar 2)) (gName 3))
    (tDrop (tBM K "list" rAppend (tVar 1) (tCons (tTup (tCons (tVar 3) (tCons (tOp (uIx K) (tLst (tCons (tC (.str "integer")) (tCons (tC (.str "text")) (tCons (tC (.str "flag")) tNil)))) (tCal (sp_law_next K) (tCons (tVar 0) (tCons (tC (.int 3)) tNil)))) tNil))) tNil))))
def T_law_fields (K : PySem.W.Frag) : TS :=
    (tSeq (tAsg (tLst tNil) (gName 1))
    (tSeq (tFor (iRng1 (tCons (tCal (sp_law_next K) (tCons (tVar 0) (tCons (tC (.int 4)) tNil))) tNil)) (gName 2) (T_law_fields_b1 K))
    (tRet (tVar 1))))

def NMS : List Str := ["a", "b", "note", "_x"]
theorem nms_ok : ∀ x ∈ NMS, fnZ x = true ∧ x.length ≤ 100 := by decide +kernel
def sp_law_fields (K : PySem.W.Frag) : Sp := fun vs H Q _ => ∃ (st L : Addr), vs = [.ref st] ∧ Draw H st L ∧ ∀ (f : Addr) (fl : List (Str × Str)) (H' : Hp), FldsAt H' f fl → FldsOk fl → fl.length ≤ 4 → Draw H' st L → ExD H H' → Q (.ref f) H'
theorem law_fields_c {K : PySem.W.Frag} {st L : Addr} {H : Hp} {Q : VK} {E : XK} (d : Draw H st L) (q : ∀ (f : Addr) (fl : List (Str × Str)) (H' : Hp), FldsAt H' f fl → FldsOk fl → fl.length ≤ 4 → Draw H' st L → ExD H H' → Q (.ref f) H') : sp_law_fields K [.ref st] H Q E := ⟨st, L, rfl, d, q⟩
theorem w_law_fields {K : PySem.W.Frag} : Wd (T_law_fields K) N_law_fields 1 (sp_law_fields K) := fun vs H Q E h => by
  obtain ⟨st, L, rfl, d, q⟩ := h
  refine ⟨rfl, ?_⟩
  show T_law_fields K _ [some (.ref st), none, none, none] H
  unfold T_law_fields
  walk_at "zz"
  rename_i f hf
  have nf := Draw.ne hf d
  have nfL := Draw.neL hf d
  have d1 := Draw.new (o := .lst []) hf d
  walk_at "nx"
  intro n H2 a2 b2 d2 x2
  have ef2 := x2.lk (upd_same : _ = some (.lst (([] : List Addr).map V.ref))) NotSt.refs
  have x02 : ExD H H2 := (ExD.new hf (ExD.refl H)).trans x2
  walk_at "zz"
  refine z_rng1 (by omega) ?_ (by omega)
  refine z_rng (fun i σ H' => ∃ (w2 w3 : Option V) (ps : List Addr) (fl : List (Str × Str)), σ = [some (.ref st), some (.ref f), w2, w3] ∧ Draw H' st L ∧ ExD H H' ∧ H' f = some (.lst (ps.map V.ref)) ∧ All2 (fun q (x : Str × Str) => H' q = some (.tup [.str x.1, .str x.2])) ps fl ∧ fl.map (·.1) = NMS.take i ∧ ∀ x ∈ fl, x.2 ∈ KND)
    ⟨_, _, [], [], rfl, d2, x02, ef2, .nil, rfl, fun _ h => nomatch h⟩ ?_ ?_
  · rintro i σ H3 hi ⟨w2, w3, ps, fl, rfl, d3, x3, ef3, r3, nm3, k3⟩
    have hi4 : i < NMS.length := by show i < 4; omega
    have lf : fl.length = i := by
      have := congrArg List.length nm3
      simpa [Nat.min_eq_left (Nat.le_of_lt hi4)] using this
    have lp := All2.len r3
    unfold T_law_fields_b1
    walk_at "zz"
    rename_i c1 hc1
    refine z_ix (.inl (SqL.of upd_same)) (str_at (ks := NMS) (by omega) (by show _ < (4 : Int); omega)) ?_
    rw [show (0 + (i : Int)).toNat = i by omega]
    have d4 := Draw.new (o := .lst (NMS.map V.str)) hc1 d3
    have ef4 := lk_new (o := .lst (NMS.map V.str)) hc1 ef3
    have x4 : ExD H (upd H3 c1 (.lst (NMS.map V.str))) := x3.trans (ExD.new hc1 (ExD.refl H3))
    have r4 : All2 (fun q (x : Str × Str) => (upd H3 c1 (.lst (NMS.map V.str))) q = some (.tup [.str x.1, .str x.2])) ps fl := All2.imp (fun _ _ e => lk_new hc1 e) r3
    show tDrop _ _ _ (upd H3 c1 (.lst (NMS.map V.str)))
    generalize upd H3 c1 (.lst (NMS.map V.str)) = H4 at *
    walk_at "zz"
    rename_i c2 hc2
    have d5 := Draw.new (o := .lst (KND.map V.str)) hc2 d4
    refine law_next_c (by exact d5) (by decide) (by decide) fun t H6 a6 b6 d6 x6 => ?_
    have e6 : H6 c2 = some (.lst (KND.map V.str)) := x6.lk upd_same NotSt.strs
    refine z_ix (.inl (SqL.of e6)) (str_at (ks := KND) a6 b6) ?_
    have ef6 := x6.lk (lk_new hc2 ef4) NotSt.refs
    have xx6 : ExD H H6 := (x4.trans (ExD.new hc2 (ExD.refl H4))).trans x6
    have r6 : All2 (fun q (x : Str × Str) => H6 q = some (.tup [.str x.1, .str x.2])) ps fl := All2.imp (fun _ _ e => x6 _ _ NotSt.tup (lk_new hc2 e)) r4
    walk_at "zz"
    rename_i u hu
    refine z_app (lk_new hu ef6) (by rw [List.length_map]; omega) ?_
    refine ⟨_, _, ps ++ [u], fl ++ [(NMS.getD i "", KND.getD t.toNat "")], rfl, Draw.put nf nfL (Draw.new hu d6), ?_, by rw [upd_same, ref_app], ?_, ?_, ?_⟩
    · intro b o no eb
      have nb : b ≠ f := ne_of_none eb hf
      exact lk_ne nb (lk_new hu (xx6 b o no eb))
    · refine All2.app (All2.imp (fun _ _ e => lk_df (lk_new hu e) (lk_new hu ef6) (fun z => by cases z)) r6) ?_
      exact lk_df upd_same (lk_new hu ef6) (fun z => by cases z)
    · rw [List.map_append, nm3, take_dS ("" : Str) hi4]; rfl
    · intro x hx
      rcases List.mem_append.mp hx with h | h
      · exact k3 x h
      · rw [List.mem_singleton.mp h]; exact getD_mem' _ (by show t.toNat < 3; omega)
  · rintro σ H3 ⟨w2, w3, ps, fl, rfl, d3, x3, ef3, r3, nm3, k3⟩
    walk_at "zz"
    have sub : ∀ x ∈ fl, x.1 ∈ NMS := fun x hx => by
      have : x.1 ∈ fl.map (·.1) := List.mem_map.mpr ⟨x, hx, rfl⟩
      rw [nm3] at this
      exact List.mem_of_mem_take this
    refine q f fl H3 ⟨ps, ef3, r3⟩ ⟨?_, fun x hx => ⟨k3 x hx, (nms_ok _ (sub x hx)).1, (nms_ok _ (sub x hx)).2⟩⟩ ?_ d3 x3
    · rw [nm3]; exact (by decide +kernel : NMS.Nodup).sublist (List.take_sublist _ _)
    · have := congrArg List.length nm3
      simp at this
      have : NMS.length = 4 := rfl
      omega
abbrev N_law_schema : List Str := ["_law_state", "_law_width", "_law_measure"]
-- _law_schema(_law_state): slots 0:_law_state 1:_law_width 2:_law_measure
def T_law_schema (K : PySem.W.Frag) : TS :=
    (tSeq (tAsg (tOp (uIx K) (tLst (tCons (tC (.str "bit")) (tCons (tC (.str "small")) (tCons (tC (.str "wide")) tNil)))) (tCal (sp_law_next K) (tCons (tVar 0) (tCons (tC (.int 3)) tNil)))) (gName 1))
    (tSeq (tAsg (tOp (uIx K) (tLst (tCons (tC (.str "square")) (tCons (tC (.str "dot")) (tCons (tC (.str "bits")) tNil)))) (tCal (sp_law_next K) (tCons (tVar 0) (tCons (tC (.int 3)) tNil)))) (gName 2))
    (tCut (tIfS (tTest (tOp (uEq K) (tVar 2) (tC (.str "bits")))) (tAsg (tC (.str "bit")) (gName 1)) tNext)
    (tRet (tTup (tCons (tOp (uAdd K) (tC (.int 1)) (tCal (sp_law_next K) (tCons (tVar 0) (tCons (tC (.int 4)) tNil)))) (tCons (tVar 1) (tCons (tVar 2) (tCons (tCal (sp_law_fields K) (tCons (tVar 0) tNil)) tNil)))))))))

def sp_law_schema (K : PySem.W.Frag) : Sp := fun vs H Q _ => ∃ (st L : Addr), vs = [.ref st] ∧ Draw H st L ∧ ∀ (t f : Addr) (size : Int) (w m : Str) (fl : List (Str × Str)) (H' : Hp), H' t = some (.tup [.int size, .str w, .str m, .ref f]) → FldsAt H' f fl → FldsOk fl → fl.length ≤ 4 → SchGood size w m fl → size ≤ 4 → Draw H' st L → ExD H H' → Q (.ref t) H'
theorem law_schema_c {K : PySem.W.Frag} {st L : Addr} {H : Hp} {Q : VK} {E : XK} (d : Draw H st L) (q : ∀ (t f : Addr) (size : Int) (w m : Str) (fl : List (Str × Str)) (H' : Hp), H' t = some (.tup [.int size, .str w, .str m, .ref f]) → FldsAt H' f fl → FldsOk fl → fl.length ≤ 4 → SchGood size w m fl → size ≤ 4 → Draw H' st L → ExD H H' → Q (.ref t) H') : sp_law_schema K [.ref st] H Q E := ⟨st, L, rfl, d, q⟩
theorem w_law_schema {K : PySem.W.Frag} : Wd (T_law_schema K) N_law_schema 1 (sp_law_schema K) := fun vs H Q E h => by
  obtain ⟨st, L, rfl, d, q⟩ := h
  refine ⟨rfl, ?_⟩
  show T_law_schema K _ [some (.ref st), none, none] H
  unfold T_law_schema
  walk_at "zz"
  rename_i c1 hc1
  have d1 := Draw.new (o := .lst (WDT.map V.str)) hc1 d
  refine law_next_c (by exact d1) (by decide) (by decide) fun t1 H1 a1 b1 d1' x1 => ?_
  have e1 : H1 c1 = some (.lst (WDT.map V.str)) := x1.lk upd_same NotSt.strs
  refine z_ix (.inl (SqL.of e1)) (str_at (ks := WDT) a1 b1) ?_
  have hw : WDT.getD t1.toNat "" ∈ WDT := getD_mem' _ (by show t1.toNat < 3; omega)
  have y1 : ExD H H1 := (ExD.new hc1 (ExD.refl H)).trans x1
  generalize WDT.getD t1.toNat "" = w at *
  walk_at "zz"
  rename_i c2 hc2
  have d2 := Draw.new (o := .lst (MSR.map V.str)) hc2 d1'
  refine law_next_c (by exact d2) (by decide) (by decide) fun t2 H2 a2 b2 d2' x2 => ?_
  have e2 : H2 c2 = some (.lst (MSR.map V.str)) := x2.lk upd_same NotSt.strs
  refine z_ix (.inl (SqL.of e2)) (str_at (ks := MSR) a2 b2) ?_
  have hm : MSR.getD t2.toNat "" ∈ MSR := getD_mem' _ (by show t2.toNat < 3; omega)
  have y2 : ExD H H2 := (y1.trans (ExD.new hc2 (ExD.refl H1))).trans x2
  generalize MSR.getD t2.toNat "" = m at *
  walk_at "zz"
  refine z_cut (fun σ H' => H' = H2 ∧ ∃ w : Str, w ∈ WDT ∧ (m = "bits" → w = "bit") ∧ σ = [some (.ref st), some (.str w), some (.str m)]) ?_ ?_
  · walk_at "zz"
    refine z_itD (fun h => ?_) (fun h => ?_)
    · walk_at "zz"
      exact ⟨rfl, "bit", by decide +kernel, fun _ => rfl, rfl⟩
    · walk_at "zz"
      exact ⟨rfl, w, hw, fun z => absurd z h, rfl⟩
  rintro σ H' ⟨rfl, w, hw, hb, rfl⟩
  walk_at "zz"
  walk_at "nx"
  intro n H3 a3 b3 d3 x3
  walk_at "zz"
  refine law_fields_c d3 fun f fl H4 hf ok l4 d4 x4 => ?_
  walk_at "zz"
  rename_i t ht
  have s5 : Same H4 (upd H4 t (.tup [.int (1 + n), .str w, .str m, .ref f])) := Same.new ht (Same.refl H4)
  exact q t f (1 + n) w m fl _ upd_same (hf.same s5) ok l4 ⟨by omega, hw, hm, hb, ok.1, fun x hx => ⟨(ok.2 x hx).1, (ok.2 x hx).2.1⟩⟩ (by omega) (d4.same s5) (((y2.trans x3).trans x4).trans (ExD.of s5))
abbrev N_law_number : List Str := ["_law_state", "_law_width", "_law_low", "_law_high", "_law_spread"]
-- _law_number(_law_state, _law_width): slots 0:_law_state 1:_law_width 2:_law_low 3:_law_high 4:_law_spread
def T_law_number (K : PySem.W.Frag) : TS :=
    (tSeq (tAsg (tOp (uIx K) (tLst (tCons (tC (.int 0)) (tCons (tUn uNeg (tC (.int 128))) (tCons (tUn uNeg (tC (.int 32768))) tNil)))) (tBM K "list" (rIndex K) (tLst (tCons (tC (.str "bit")) (tCons (tC (.str "small")) (tCons (tC (.str "wide")) tNil)))) (tCons (tVar 1) tNil))) (gName 2))
    (tSeq (tAsg (tOp (uIx K) (tLst (tCons (tC (.int 1)) (tCons (tC (.int 127)) (tCons (tC (.int 32767)) tNil)))) (tBM K "list" (rIndex K) (tLst (tCons (tC (.str "bit")) (tCons (tC (.str "small")) (tCons (tC (.str "wide")) tNil)))) (tCons (tVar 1) tNil))) (gName 3))
    (tSeq (tIfS (tTest (tOp (uEq K) (tCal (sp_law_next K) (tCons (tVar 0) (tCons (tC (.int 5)) tNil))) (tC (.int 0)))) (tRet (tOp (uIx K) (tLst (tCons (tVar 2) (tCons (tVar 3) tNil))) (tCal (sp_law_next K) (tCons (tVar 0) (tCons (tC (.int 2)) tNil))))) tNext)
    (tSeq (tAsg (tOp (uIx K) (tLst (tCons (tC (.int 1)) (tCons (tC (.int 5)) (tCons (tOp uSub (tVar 3) (tVar 2)) tNil)))) (tCal (sp_law_next K) (tCons (tVar 0) (tCons (tC (.int 3)) tNil)))) (gName 4))
    (tRet (tIf (tTest (tOp (uEq K) (tCal (sp_law_next K) (tCons (tVar 0) (tCons (tC (.int 2)) tNil))) (tC (.int 0)))) (tCB uMin (tCons (tVar 3) (tCons (tOp (uAdd K) (tCB uMax (tCons (tVar 2) (tCons (tC (.int 0)) tNil))) (tCal (sp_law_next K) (tCons (tVar 0) (tCons (tOp (uAdd K) (tVar 4) (tC (.int 1))) tNil)))) tNil))) (tCB uMax (tCons (tVar 2) (tCons (tUn uNeg (tCal (sp_law_next K) (tCons (tVar 0) (tCons (tOp (uAdd K) (tVar 4) (tC (.int 1))) tNil)))) tNil)))))))))

def sp_law_number (K : PySem.W.Frag) : Sp := fun vs H Q _ => ∃ (st L : Addr) (w : Str), vs = [.ref st, .str w] ∧ Draw H st L ∧ w ∈ WDT ∧ ∀ (n : Int) (H' : Hp), lowW w ≤ n → n ≤ highW w → Draw H' st L → ExD H H' → Q (.int n) H'
theorem law_number_c {K : PySem.W.Frag} {st L : Addr} {w : Str} {H : Hp} {Q : VK} {E : XK} (d : Draw H st L) (hw : w ∈ WDT) (q : ∀ (n : Int) (H' : Hp), lowW w ≤ n → n ≤ highW w → Draw H' st L → ExD H H' → Q (.int n) H') : sp_law_number K [.ref st, .str w] H Q E := ⟨st, L, w, rfl, d, hw, q⟩
theorem w_law_number {K : PySem.W.Frag} : Wd (T_law_number K) N_law_number 2 (sp_law_number K) := fun vs H Q E h => by
  obtain ⟨st, L, w, rfl, d, hw, q⟩ := h
  refine ⟨rfl, ?_⟩
  show T_law_number K _ [some (.ref st), some (.str w), none, none, none] H
  obtain ⟨j, hj, ej, nj, lo, hi⟩ := wd_ix hw
  have lh := low_high w
  unfold T_law_number
  walk_at "zz"
  rename_i c1 hc1 c2 hc2
  refine z_indexS (ks := WDT) (SqL.of upd_same) ej nj ?_
  walk_at "zz"
  refine z_ix (.inl (SqL.of (lk_new hc2 upd_same))) (at_intj (xs := [0, -128, -32768]) lo) ?_
  have y2 : ExD H (upd (upd H c1 (.lst [.int 0, .int (-128), .int (-32768)])) c2 (.lst (WDT.map V.str))) := ExD.of (Same.new hc2 (Same.new hc1 (Same.refl H)))
  have d2 := Draw.new (o := .lst (WDT.map V.str)) hc2 (Draw.new (o := .lst [.int 0, .int (-128), .int (-32768)]) hc1 d)
  show tSeq _ _ _ _ (upd (upd H c1 (.lst [.int 0, .int (-128), .int (-32768)])) c2 (.lst (WDT.map V.str)))
  generalize upd (upd H c1 (.lst [.int 0, .int (-128), .int (-32768)])) c2 (.lst (WDT.map V.str)) = H2 at *
  walk_at "zz"
  rename_i c3 hc3 c4 hc4
  refine z_indexS (ks := WDT) (SqL.of upd_same) ej nj ?_
  walk_at "zz"
  refine z_ix (.inl (SqL.of (lk_new hc4 upd_same))) (at_intj (xs := [1, 127, 32767]) hi) ?_
  have y4 : ExD H (upd (upd H2 c3 (.lst [.int 1, .int 127, .int 32767])) c4 (.lst (WDT.map V.str))) := y2.trans (ExD.of (Same.new hc4 (Same.new hc3 (Same.refl H2))))
  have d4 := Draw.new (o := .lst (WDT.map V.str)) hc4 (Draw.new (o := .lst [.int 1, .int 127, .int 32767]) hc3 d2)
  show tSeq _ _ _ _ (upd (upd H2 c3 (.lst [.int 1, .int 127, .int 32767])) c4 (.lst (WDT.map V.str)))
  generalize upd (upd H2 c3 (.lst [.int 1, .int 127, .int 32767])) c4 (.lst (WDT.map V.str)) = H4 at *
  generalize lowW w = low at *
  generalize highW w = high at *
  walk_at "zz"
  walk_at "nx"
  intro n5 H5 a5 b5 d5 x5
  have y5 := y4.trans x5
  walk_at "zz"
  refine z_itD (fun h => ?_) (fun h => ?_)
  · walk_at "zz"
    rename_i c6 hc6
    have d6 := Draw.new (o := .lst [.int low, .int high]) hc6 d5
    walk_at "nx"
    intro n7 H7 a7 b7 d7 x7
    have e7 := x7.lk upd_same (by walk_at "ns")
    have y7 := (y5.trans (ExD.new (o := .lst [.int low, .int high]) hc6 (ExD.refl H5))).trans x7
    have : n7 = 0 ∨ n7 = 1 := by omega
    rcases this with rfl | rfl
    · refine z_ix (.inl (SqL.of e7)) (v := .int low) rfl ?_
      exact q low H7 (by omega) (by omega) d7 y7
    · refine z_ix (.inl (SqL.of e7)) (v := .int high) rfl ?_
      exact q high H7 (by omega) (by omega) d7 y7
  · walk_at "zz"
    rename_i c6 hc6
    have d6 := Draw.new (o := .lst [.int 1, .int 5, .int (high - low)]) hc6 d5
    walk_at "nx"
    intro n7 H7 a7 b7 d7 x7
    have e7 := x7.lk upd_same (by walk_at "ns")
    have y7 := (y5.trans (ExD.new (o := .lst [.int 1, .int 5, .int (high - low)]) hc6 (ExD.refl H5))).trans x7
    have hs : ∃ s : Int, atI [V.int 1, V.int 5, V.int (high - low)] n7 = some (.int s) ∧ 0 < s ∧ s ≤ 65535 := by
      have : n7 = 0 ∨ n7 = 1 ∨ n7 = 2 := by omega
      rcases this with rfl | rfl | rfl
      · exact ⟨1, rfl, by decide, by decide⟩
      · exact ⟨5, rfl, by decide, by decide⟩
      · exact ⟨high - low, rfl, by omega, by omega⟩
    obtain ⟨s, es, s0, s1⟩ := hs
    refine z_ix (.inl (SqL.of e7)) es ?_
    walk_at "zz"
    walk_at "nx"
    intro n8 H8 a8 b8 d8 x8
    walk_at "zz"
    refine z_itD (fun h => ?_) (fun h => ?_)
    · walk_at "zz"
      refine law_next_c d8 (by omega) (by omega) fun n9 H9 a9 b9 d9 x9 => ?_
      walk_at "zz"
      refine q _ H9 ?_ ?_ d9 ((y7.trans x8).trans x9)
      · split <;> split <;> omega
      · split <;> split <;> omega
    · walk_at "zz"
      refine law_next_c d8 (by omega) (by omega) fun n9 H9 a9 b9 d9 x9 => ?_
      walk_at "zz"
      refine q _ H9 ?_ ?_ d9 ((y7.trans x8).trans x9)
      · split <;> omega
      · split <;> omega

/-! ### rows of records in plain -/
def spZ (x : Str) : List Int := (x.length : Int) :: x.cps.toList.map fun (c : Nat) => (c : Int)
def vpZ : V → List Int
  | .bl b => [2, if b then 1 else 0]
  | .str x => 1 :: spZ x
  | .int i => [0, i]
  | _ => []
def vSm : V → Prop
  | .bl _ => True
  | .str x => x.length ≤ 100
  | .int _ => True
  | _ => False
def fpZ (x : Str × V) : List Int := spZ x.1 ++ vpZ x.2
def wpZ (x : Str × Int) : List Int := spZ x.1 ++ [x.2]
def rowB (i : Int) (n : Str) (xs : List Int) (k : Nat) : List Int := [i] ++ spZ n ++ [(xs.length : Int)] ++ xs ++ [(k : Int)]
def rowZ (i : Int) (n : Str) (xs : List Int) (fl : List (Str × V)) (ws : List (Str × Int)) : List Int := rowB i n xs fl.length ++ fl.flatMap fpZ ++ [(ws.length : Int)] ++ ws.flatMap wpZ
abbrev flV (fl : List (Str × V)) : List (V × V) := fl.map fun x => (.str x.1, x.2)
abbrev wsV (ws : List (Str × Int)) : List (V × V) := ws.map fun x => (.str x.1, .int x.2)
structure RecSm (n : Str) (xs : List Int) (fl : List (Str × V)) (ws : List (Str × Int)) : Prop where
  hn : n.length ≤ 100
  hx : xs.length ≤ 100
  hf : fl.length ≤ 100
  fs : ∀ x ∈ fl, x.1.length ≤ 100 ∧ vSm x.2
  hw : ws.length ≤ 100
  wd : ∀ x ∈ ws, x.1.length ≤ 100
theorem spZ_len (x : Str) : (spZ x).length = x.length + 1 := by simp [spZ, Str.length]
theorem vpZ_len {v : V} (h : vSm v) : (vpZ v).length ≤ 102 := by
  cases v <;> first | exact h.elim | (simp only [vpZ, List.length_cons, List.length_nil]; omega) | skip
  rename_i x
  have : x.length ≤ 100 := h
  show (1 :: spZ x).length ≤ 102
  rw [List.length_cons, spZ_len]; omega
theorem flat_len {α : Type} {f : α → List Int} {b : Nat} : ∀ {l : List α}, (∀ x ∈ l, (f x).length ≤ b) → (l.flatMap f).length ≤ b * l.length
  | [], _ => by simp
  | x :: l, h => by
    have ih := flat_len (f := f) (b := b) (l := l) fun y hy => h y (List.mem_cons_of_mem _ hy)
    have hx := h x (List.mem_cons_self ..)
    rw [List.flatMap_cons, List.length_append, List.length_cons, Nat.mul_succ]
    omega
theorem flat_take {α : Type} {f : α → List Int} {l : List α} {i : Nat} (d : α) (h : i < l.length) : (l.take (i + 1)).flatMap f = (l.take i).flatMap f ++ f (l.getD i d) := by
  rw [take_dS d h, List.flatMap_append]; simp
theorem map_appI {xs ys : List Int} : xs.map V.int ++ ys.map V.int = (xs ++ ys).map V.int := by simp
theorem map_app1 {xs : List Int} {i : Int} : xs.map V.int ++ [V.int i] = (xs ++ [i]).map V.int := by simp
theorem map_1app {xs : List Int} {i : Int} : [V.int i] ++ xs.map V.int = ([i] ++ xs).map V.int := by simp
abbrev N_string_part : List Str := ["text", "sign"]
-- string_part(text): slots 0:text 1:sign
def T_string_part (K : PySem.W.Frag) : TS :=
    (tRet (tOp (uAdd K) (tLst (tCons (tCB (uLen K) (tCons (tVar 0) tNil)) tNil)) (tLc (iStr (tVar 0)) (gName 1) tYes (tCB uOrd (tCons (tVar 1) tNil)) [1])))

def sp_string_part (K : PySem.W.Frag) : Sp := fun vs H Q _ => ∃ x : Str, vs = [.str x] ∧ x.length ≤ 1000 ∧ ∀ (r : Addr) H', H r = none → Same H H' → H' r = some (.lst ((spZ x).map V.int)) → Q (.ref r) H'
theorem string_part_c {K : PySem.W.Frag} {x : Str} {H : Hp} {Q : VK} {E : XK} (h : x.length ≤ 1000) (q : ∀ (r : Addr) H', H r = none → Same H H' → H' r = some (.lst ((spZ x).map V.int)) → Q (.ref r) H') : sp_string_part K [.str x] H Q E := ⟨x, rfl, h, q⟩
theorem w_string_part {K : PySem.W.Frag} : Wd (T_string_part K) N_string_part 1 (sp_string_part K) := fun vs H Q E h => by
  obtain ⟨x, rfl, hx, q⟩ := h
  refine ⟨rfl, ?_⟩
  show T_string_part K _ [some (.str x), none] H
  unfold T_string_part
  walk_at "zz"
  refine z_lenS (by omega) ?_
  walk_at "zz"
  rename_i c1 hc1
  have s1 : Same H (upd H c1 (.lst [.int (x.length : Nat)])) := Same.new hc1 (Same.refl H)
  have e1 : upd H c1 (.lst [.int (x.length : Nat)]) c1 = some (.lst [.int (x.length : Nat)]) := upd_same
  generalize upd H c1 (.lst [.int (x.length : Nat)]) = H1 at *
  refine z_lctx (fun C i H' => Same H1 H' ∧ H' C = some (.lst (((x.cps.toList.take i).map fun (c : Nat) => (c : Int)).map V.int))) (fun C hC => ⟨Same.new hC (Same.refl H1), upd_same⟩) ?_ ?_
  · rintro C i c H' hC hc ⟨s, eC⟩
    have hc2 : x.cps.toList[i]? = some c := by rw [Array.getElem?_toList]; exact hc
    refine ⟨rfl, ?_⟩
    walk_at "zz"
    refine z_accum eC (by rw [List.length_map, List.length_map, List.length_take]; have : x.cps.toList.length ≤ 1000 := (by simpa [Str.length] using hx); omega) ?_
    refine ⟨Same.put hC s, ?_⟩
    rw [upd_same, List.take_succ, hc2]; simp
  · rintro C H2 hC ⟨s2, eC⟩
    rw [List.take_of_length_le (by simp)] at eC
    refine z_addL (s2 _ _ e1) eC (by simp; have : x.cps.size ≤ 1000 := (by simpa [Str.length] using hx); omega) fun r hr => ?_
    have s3 := s1.trans s2
    refine q r _ (fresh_same s3 hr) (Same.new hr s3) ?_
    rw [upd_same, map_1app]; rfl
abbrev N_value_part : List Str := ["worth"]
-- value_part(worth): slots 0:worth
def T_value_part (K : PySem.W.Frag) : TS :=
    (tSeq (tIfS (tTru K (tCB (uIsi K) (tCons (tVar 0) (tCons (tC (.ty "bool")) tNil)))) (tRet (tLst (tCons (tC (.int 2)) (tCons (tIf (tTru K (tVar 0)) (tC (.int 1)) (tC (.int 0))) tNil)))) tNext)
    (tSeq (tIfS (tTru K (tCB (uIsi K) (tCons (tVar 0) (tCons (tC (.ty "str")) tNil)))) (tRet (tOp (uAdd K) (tLst (tCons (tC (.int 1)) tNil)) (tCal (sp_string_part K) (tCons (tVar 0) tNil)))) tNext)
    (tRet (tLst (tCons (tC (.int 0)) (tCons (tVar 0) tNil))))))

def sp_value_part (K : PySem.W.Frag) : Sp := fun vs H Q _ => ∃ v : V, vs = [v] ∧ vSm v ∧ ∀ (r : Addr) H', H r = none → Same H H' → H' r = some (.lst ((vpZ v).map V.int)) → Q (.ref r) H'
theorem value_part_c {K : PySem.W.Frag} {v : V} {H : Hp} {Q : VK} {E : XK} (h : vSm v) (q : ∀ (r : Addr) H', H r = none → Same H H' → H' r = some (.lst ((vpZ v).map V.int)) → Q (.ref r) H') : sp_value_part K [v] H Q E := ⟨v, rfl, h, q⟩
theorem w_value_part {K : PySem.W.Frag} : Wd (T_value_part K) N_value_part 1 (sp_value_part K) := fun vs H Q E h => by
  obtain ⟨v, rfl, hv, q⟩ := h
  refine ⟨rfl, ?_⟩
  show T_value_part K _ [some v] H
  unfold T_value_part
  cases v <;> first | exact hv.elim | skip
  · rename_i b
    walk_at "zx"
    cases b with
    | true =>
      walk_at "zx"
      rename_i r hr
      exact q r _ hr (Same.new hr (Same.refl H)) (by rw [upd_same]; rfl)
    | false =>
      walk_at "zx"
      rename_i r hr
      exact q r _ hr (Same.new hr (Same.refl H)) (by rw [upd_same]; rfl)
  · rename_i i
    walk_at "zx"
    rename_i r hr
    exact q r _ hr (Same.new hr (Same.refl H)) (by rw [upd_same]; rfl)
  · rename_i x
    have hx : x.length ≤ 100 := hv
    walk_at "zx"
    rename_i c1 hc1
    have s1 : Same H (upd H c1 (.lst [.int 1])) := Same.new hc1 (Same.refl H)
    have e1 : upd H c1 (.lst [.int 1]) c1 = some (.lst [.int 1]) := upd_same
    generalize upd H c1 (.lst [.int 1]) = H1 at *
    refine string_part_c (by omega) fun r H2 nr s2 er => ?_
    walk_at "zz"
    refine z_addL (s2 _ _ e1) er (by rw [List.length_map, spZ_len]; show 1 + _ ≤ _; omega) fun r2 hr2 => ?_
    have s3 := s1.trans s2
    refine q r2 _ (fresh_same s3 hr2) (Same.new hr2 s3) ?_
    rw [upd_same, map_1app]; rfl
abbrev N_row_of : List Str := ["number", "record", "row", "name", "worth", "word", "count"]
-- row_of(number, record): slots 0:number 1:record 2:row 3:name 4:worth 5:word 6:count
def T_row_of_b1 (K : PySem.W.Frag) : TS :=
    (tAsg (tOp (uAdd K) (tOp (uAdd K) (tVar 2) (tCal (sp_string_part K) (tCons (tVar 3) tNil))) (tCal (sp_value_part K) (tCons (tVar 4) tNil))) (gName 2))
def T_row_of_b2 (K : PySem.W.Frag) : TS :=
    (tAsg (tOp (uAdd K) (tOp (uAdd K) (tVar 2) (tCal (sp_string_part K) (tCons (tVar 5) tNil))) (tLst (tCons (tVar 6) tNil))) (gName 2))
def T_row_of (K : PySem.W.Frag) : TS :=
    (tSeq (tAsg (tOp (uAdd K) (tOp (uAdd K) (tOp (uAdd K) (tOp (uAdd K) (tLst (tCons (tVar 0) tNil)) (tCal (sp_string_part K) (tCons (tFld K (tVar 1) "name") tNil))) (tLst (tCons (tCB (uLen K) (tCons (tFld K (tVar 1) "vector") tNil)) tNil))) (tCB (uList K) (tCons (tFld K (tVar 1) "vector") tNil))) (tLst (tCons (tCB (uLen K) (tCons (tFld K (tVar 1) "fields") tNil)) tNil))) (gName 2))
    (tSeq (tFor (iSq K (tFld K (tVar 1) "fields")) (gTup K 2 (gCons (gName 3) (gCons (gName 4) gNil))) (T_row_of_b1 K))
    (tSeq (tAsg (tOp (uAdd K) (tVar 2) (tLst (tCons (tCB (uLen K) (tCons (tFld K (tVar 1) "words") tNil)) tNil))) (gName 2))
    (tSeq (tFor (iSq K (tFld K (tVar 1) "words")) (gTup K 2 (gCons (gName 5) (gCons (gName 6) gNil))) (T_row_of_b2 K))
    (tRet (tVar 2))))))

def sp_row_of (K : PySem.W.Frag) (c : CEnv) : Sp := fun vs H Q _ => ∃ (i : Int) (p : Addr) (n : Str) (xs : List Int) (fl : List (Str × V)) (ws : List (Str × Int)), vs = [.int i, .ref p] ∧ RecAt K c H p n xs (flV fl) (wsV ws) ∧ RecSm n xs fl ws ∧ ∀ (r : Addr) H', H r = none → Same H H' → H' r = some (.lst ((rowZ i n xs fl ws).map V.int)) → Q (.ref r) H'
theorem row_of_c {K : PySem.W.Frag} {c : CEnv} {i : Int} {p : Addr} {n : Str} {xs : List Int} {fl : List (Str × V)} {ws : List (Str × Int)} {H : Hp} {Q : VK} {E : XK} (h : RecAt K c H p n xs (flV fl) (wsV ws)) (sm : RecSm n xs fl ws) (q : ∀ (r : Addr) H', H r = none → Same H H' → H' r = some (.lst ((rowZ i n xs fl ws).map V.int)) → Q (.ref r) H') : sp_row_of K c [.int i, .ref p] H Q E := ⟨i, p, n, xs, fl, ws, rfl, h, sm, q⟩
theorem z_addI {K : PySem.W.Frag} {H0 H : Hp} {p r : Addr} {xs ys : List Int} {Q : VK} (s : Same H0 H) (h1 : H p = some (.lst (xs.map V.int))) (h2 : H r = some (.lst (ys.map V.int))) (hl : xs.length + ys.length ≤ 100000) (k : ∀ (t : Addr) H', H0 t = none → Same H0 H' → Same H H' → H' t = some (.lst ((xs ++ ys).map V.int)) → Q (.ref t) H') : uAdd K (.ref p) (.ref r) H Q :=
  z_addL h1 h2 (by simpa using hl) fun t ht => k t _ (fresh_same s ht) (Same.new ht s) (Same.new ht (Same.refl H)) (by rw [upd_same, map_appI])
abbrev dFV : Str × V := ("", .non)
abbrev dWI : Str × Int := ("", 0)
theorem flV_at {fl : List (Str × V)} {i : Nat} (h : i < fl.length) : (flV fl).getD i (V.non, V.non) = (.str (fl.getD i dFV).1, (fl.getD i dFV).2) := by
  rw [List.getD_eq_getElem?_getD, List.getElem?_map, List.getD_eq_getElem?_getD, List.getElem?_eq_getElem h]; rfl
theorem wsV_at {ws : List (Str × Int)} {i : Nat} (h : i < ws.length) : (wsV ws).getD i (V.non, V.non) = (.str (ws.getD i dWI).1, .int (ws.getD i dWI).2) := by
  rw [List.getD_eq_getElem?_getD, List.getElem?_map, List.getD_eq_getElem?_getD, List.getElem?_eq_getElem h]; rfl
theorem w_row_of {K : PySem.W.Frag} {c : CEnv} : Wd (T_row_of K) N_row_of 2 (sp_row_of K c) := fun vs H Q E h => by
  obtain ⟨i, p, n, xs, fl, ws, rfl, ⟨tv, tf, tw, ⟨ok, dx, ei⟩, ev, pf, pw⟩, sm, q⟩ := h
  obtain ⟨fs, ef, rf⟩ := pf
  obtain ⟨us, ew, rw_⟩ := pw
  have lf := All2.len rf
  have lw := All2.len rw_
  rw [List.length_map] at lf lw
  have b1 := sm.hn
  have b2 := sm.hx
  have b3 := sm.hf
  have b4 := sm.hw
  refine ⟨rfl, ?_⟩
  show T_row_of K _ [some (.int i), some (.ref p), none, none, none, none, none] H
  unfold T_row_of
  walk_at "zz"
  rename_i c1 hc1
  have s1 : Same H (upd H c1 (.lst [.int i])) := Same.new hc1 (Same.refl H)
  have e1 : upd H c1 (.lst [.int i]) c1 = some (.lst (([i] : List Int).map V.int)) := upd_same
  generalize upd H c1 (.lst [.int i]) = H1 at *
  refine string_part_c (by omega) fun r2 H2 _ t2 er2 => ?_
  have s2 := s1.trans t2
  walk_at "zz"
  refine z_addI s2 (t2 _ _ e1) er2 (by rw [spZ_len]; show 1 + _ ≤ _; omega) fun r3 H3 _ s3 t3 e3 => ?_
  have ei3 := s3 _ _ ei
  walk_at "zz"
  refine z_len (.inr (Same.sqT s3 ev)) ?_
  walk_at "zz"
  rename_i c4 hc4
  have s4 := Same.new (o := .lst [.int ((xs.map V.int).length : Nat)]) hc4 s3
  have e4 : upd H3 c4 (.lst [.int ((xs.map V.int).length : Nat)]) c4 = some (.lst (([(xs.length : Int)] : List Int).map V.int)) := by rw [upd_same, List.length_map]; rfl
  have e34 := lk_new (o := .lst [.int ((xs.map V.int).length : Nat)]) hc4 e3
  generalize upd H3 c4 (.lst [.int ((xs.map V.int).length : Nat)]) = H4 at *
  refine z_addI s4 e34 e4 (by rw [List.length_append, spZ_len]; show 1 + _ + 1 ≤ _; omega) fun r5 H5 _ s5 t5 e5 => ?_
  have ei5 := s5 _ _ ei
  walk_at "zz"
  refine z_list (.inr (Same.sqT s5 ev)) fun c6 hc6 => ?_
  have s6 := Same.new (o := .lst (xs.map V.int)) hc6 s5
  have e6 : upd H5 c6 (.lst (xs.map V.int)) c6 = some (.lst (xs.map V.int)) := upd_same
  have e56 := lk_new (o := .lst (xs.map V.int)) hc6 e5
  generalize upd H5 c6 (.lst (xs.map V.int)) = H6 at *
  refine z_addI s6 e56 e6 (by rw [List.length_append, List.length_append, spZ_len]; show 1 + _ + 1 + _ ≤ _; omega) fun r7 H7 _ s7 t7 e7 => ?_
  have ei7 := s7 _ _ ei
  walk_at "zz"
  refine z_len (.inr (Same.sqT s7 ef)) ?_
  walk_at "zz"
  rename_i c8 hc8
  have s8 := Same.new (o := .lst [.int ((fs.map V.ref).length : Nat)]) hc8 s7
  have e8 : upd H7 c8 (.lst [.int ((fs.map V.ref).length : Nat)]) c8 = some (.lst (([(fl.length : Int)] : List Int).map V.int)) := by rw [upd_same, List.length_map, lf]; rfl
  have e78 := lk_new (o := .lst [.int ((fs.map V.ref).length : Nat)]) hc8 e7
  generalize upd H7 c8 (.lst [.int ((fs.map V.ref).length : Nat)]) = H8 at *
  refine z_addI s8 e78 e8 (by simp only [List.length_append, spZ_len]; show 1 + _ + 1 + _ + 1 ≤ _; omega) fun r9 H9 n9 s9 t9 e9 => ?_
  have e9 : H9 r9 = some (.lst ((rowB i n xs fl.length).map V.int)) := e9
  have lB : (rowB i n xs fl.length).length ≤ 204 := by unfold rowB; simp only [List.length_append, spZ_len, List.length_cons, List.length_nil]; omega
  have ei9 := s9 _ _ ei
  walk_at "zz"
  have bf : ∀ x ∈ fl, (fpZ x).length ≤ 203 := fun x hx => by
    unfold fpZ; rw [List.length_append, spZ_len]
    have := (sm.fs x hx).1
    have := vpZ_len (sm.fs x hx).2
    omega
  refine z_forT (Same.sqT s9 ef) (fun j σ H' => Same H H' ∧ ∃ (r : Addr) (w3 w4 : Option V), σ = [some (.int i), some (.ref p), some (.ref r), w3, w4, none, none] ∧ H' r = some (.lst ((rowB i n xs fl.length ++ (fl.take j).flatMap fpZ).map V.int))) ⟨s9, r9, _, _, rfl, by simpa using e9⟩ (fun j σ' H' hj z => Same.sqT z.1 ef) ?_ ?_
  · rintro j x σ' H' hx ⟨s, r, w3, w4, rfl, er⟩
    obtain ⟨hj, rfl⟩ := map_ref hx
    have hj2 : j < fl.length := by omega
    have ep := Same.sqT s (All2.atD rf 0 (V.non, V.non) (show j < (flV fl).length by simpa using hj2))
    rw [flV_at hj2] at ep
    have memj := getD_mem' dFV hj2
    have fj := sm.fs _ memj
    have lt := flat_len (f := fpZ) (b := 203) (l := fl.take j) fun x hx => bf x (List.mem_of_mem_take hx)
    rw [List.length_take] at lt
    have lt2 : ((fl.take j).flatMap fpZ).length ≤ 20300 := Nat.le_trans lt (Nat.mul_le_mul_left 203 (by omega : min j fl.length ≤ 100))
    refine z_gTup2 ep ?_
    unfold T_row_of_b1
    walk_at "zz"
    refine string_part_c (by have := fj.1; omega) fun r2 Ha _ ta ea => ?_
    walk_at "zz"
    have sa := s.trans ta
    refine z_addI sa (ta _ _ er) ea (by rw [List.length_append, spZ_len]; have := fj.1; omega) fun r3 Hb _ sb tb eb => ?_
    walk_at "zz"
    refine value_part_c fj.2 fun r4 Hc _ tc ec => ?_
    walk_at "zz"
    have lv := vpZ_len fj.2
    refine z_addI (sb.trans tc) (tc _ _ eb) ec (by rw [List.length_append, List.length_append, spZ_len]; have := fj.1; omega) fun r5 Hd _ sd td ed => ?_
    refine ⟨sd, r5, _, _, rfl, ?_⟩
    rw [ed, flat_take dFV hj2]
    unfold fpZ
    simp only [List.append_assoc]
  rintro σ' Ha ⟨sa, r, w3, w4, rfl, er⟩
  rw [List.length_map, lf, List.take_length] at er
  have eia := sa _ _ ei
  have lF : (fl.flatMap fpZ).length ≤ 20300 := Nat.le_trans (flat_len bf) (Nat.mul_le_mul_left 203 b3)
  walk_at "zz"
  refine z_len (.inr (Same.sqT sa ew)) ?_
  walk_at "zz"
  rename_i cb hcb
  have sb := Same.new (o := .lst [.int ((us.map V.ref).length : Nat)]) hcb sa
  have eb : upd Ha cb (.lst [.int ((us.map V.ref).length : Nat)]) cb = some (.lst (([(ws.length : Int)] : List Int).map V.int)) := by rw [upd_same, List.length_map, lw]; rfl
  have erb := lk_new (o := .lst [.int ((us.map V.ref).length : Nat)]) hcb er
  generalize upd Ha cb (.lst [.int ((us.map V.ref).length : Nat)]) = Hb at *
  refine z_addI sb erb eb (by simp only [List.length_append]; show _ + _ + 1 ≤ _; omega) fun rc Hc _ sc tc ec => ?_
  have eic := sc _ _ ei
  walk_at "zz"
  have bw : ∀ x ∈ ws, (wpZ x).length ≤ 102 := fun x hx => by
    unfold wpZ; rw [List.length_append, spZ_len]
    have := sm.wd x hx
    show _ + 1 + 1 ≤ _
    omega
  refine z_forT (Same.sqT sc ew) (fun j σ H' => Same H H' ∧ ∃ (r : Addr) (w5 w6 : Option V), σ = [some (.int i), some (.ref p), some (.ref r), w3, w4, w5, w6] ∧ H' r = some (.lst ((rowB i n xs fl.length ++ fl.flatMap fpZ ++ [(ws.length : Int)] ++ (ws.take j).flatMap wpZ).map V.int)) ∧ H r = none) ⟨sc, rc, _, _, rfl, by simpa using ec, by assumption⟩ (fun j σ' H' hj z => Same.sqT z.1 ew) ?_ ?_
  · rintro j x σ' H' hx ⟨s, r, w5, w6, rfl, er, _⟩
    obtain ⟨hj, rfl⟩ := map_ref hx
    have hj2 : j < ws.length := by omega
    have ep := Same.sqT s (All2.atD rw_ 0 (V.non, V.non) (show j < (wsV ws).length by simpa using hj2))
    rw [wsV_at hj2] at ep
    have memj := getD_mem' dWI hj2
    have fj := sm.wd _ memj
    have lt := flat_len (f := wpZ) (b := 102) (l := ws.take j) fun x hx => bw x (List.mem_of_mem_take hx)
    rw [List.length_take] at lt
    have lt2 : ((ws.take j).flatMap wpZ).length ≤ 10200 := Nat.le_trans lt (Nat.mul_le_mul_left 102 (by omega : min j ws.length ≤ 100))
    refine z_gTup2 ep ?_
    unfold T_row_of_b2
    walk_at "zz"
    refine string_part_c (by omega) fun r2 Hx _ tx ex => ?_
    walk_at "zz"
    refine z_addI (s.trans tx) (tx _ _ er) ex (by simp only [List.length_append, spZ_len]; show _ + _ + 1 + _ + _ ≤ _; omega) fun r3 Hy _ sy ty ey => ?_
    walk_at "zz"
    rename_i cz hcz
    have sz := Same.new (o := .lst [.int (ws.getD j dWI).2]) hcz sy
    have ez : upd Hy cz (.lst [.int (ws.getD j dWI).2]) cz = some (.lst (([(ws.getD j dWI).2] : List Int).map V.int)) := upd_same
    have eyz := lk_new (o := .lst [.int (ws.getD j dWI).2]) hcz ey
    refine z_addI sz eyz ez (by simp only [List.length_append, spZ_len]; show _ + _ + 1 + _ + _ + 1 ≤ _; omega) fun r5 Hd n5 sd td ed => ?_
    refine ⟨sd, r5, _, _, rfl, ?_, n5⟩
    rw [ed, flat_take dWI hj2]
    unfold wpZ
    simp only [List.append_assoc]
  · rintro σ' H' ⟨s, r, w5, w6, rfl, er, nr⟩
    rw [List.length_map, lw, List.take_length] at er
    walk_at "zz"
    exact q r H' nr s er
abbrev N_check_key : List Str := ["key", "number"]
-- check_key(key): slots 0:key 1:number
def T_check_key_b1 (K : PySem.W.Frag) (c : CEnv) (W : WX) : TS :=
    (tIfS (tOr (tTest (tOp (uLt K) (tVar 1) (tC (.int 0)))) (tTest (tOp uGe (tVar 1) (tC (.int 4294967291))))) (sRaise c "InvalidKey" W) tNext)
def T_check_key (K : PySem.W.Frag) (c : CEnv) (W : WX) : TS :=
    (tFor (iSq K (tVar 0)) (gName 1) (T_check_key_b1 K c W))

def keyOk (a b : Int) : Prop := (0 ≤ a ∧ a < 4294967291) ∧ 0 ≤ b ∧ b < 4294967291
def sp_check_key (K : PySem.W.Frag) (c : CEnv) : Sp := fun vs H Q E => ∃ (k : Addr) (a b : Int), vs = [.ref k] ∧ SqT K H k [.int a, .int b] ∧ (keyOk a b → Q .non H) ∧ (¬ keyOk a b → E (.ref (c.cls "InvalidKey")) none H)
theorem w_check_key {K : PySem.W.Frag} {c : CEnv} : WdX (T_check_key K c) N_check_key 1 (sp_check_key K c) := fun vs H Q E h => by
  obtain ⟨k, a, b, rfl, hk, good, bad⟩ := h
  refine ⟨rfl, ?_⟩
  show T_check_key K c _ _ [some (.ref k), none] H
  unfold T_check_key
  walk_at "zz"
  refine z_forT (xs := ([a, b] : List Int).map V.int) hk (fun i σ H' => H' = H ∧ (∀ x ∈ ([a, b] : List Int).take i, 0 ≤ x ∧ x < 4294967291) ∧ ∃ w, σ = [some (.ref k), w]) ⟨rfl, (fun _ h => nomatch h), _, rfl⟩ (fun i σ' H' _ z => by rw [z.1]; exact hk) ?_ ?_
  · rintro i x σ' H' hx ⟨rfl, okk, w, rfl⟩
    obtain ⟨hi, rfl⟩ := map_int hx
    have mem : ([a, b] : List Int).getD i 0 ∈ [a, b] := getD_mem' 0 hi
    have nk : ¬ (0 ≤ ([a, b] : List Int).getD i 0 ∧ ([a, b] : List Int).getD i 0 < 4294967291) → ¬ keyOk a b := fun z ko => z (by
      rcases List.mem_cons.mp mem with e | e
      · rw [e]; exact ko.1
      · rw [List.mem_singleton.mp e]; exact ko.2)
    unfold T_check_key_b1
    walk_at "zz"
    by_cases c1 : ([a, b] : List Int).getD i 0 < 0
    · rw [decide_eq_true c1]
      walk_at "zx"
      exact bad (nk (by omega))
    rw [decide_eq_false c1]
    walk_at "zx"
    by_cases c2 : 4294967291 ≤ ([a, b] : List Int).getD i 0
    · rw [decide_eq_true c2]
      walk_at "zx"
      exact bad (nk (by omega))
    rw [decide_eq_false c2]
    walk_at "zx"
    refine ⟨rfl, ?_, _, rfl⟩
    rw [take_dS 0 hi]
    intro x hx
    rcases List.mem_append.mp hx with h | h
    · exact okk x h
    · rw [List.mem_singleton.mp h]; omega
  · rintro σ' H' ⟨rfl, okk, w, rfl⟩
    refine good ⟨okk a (by simp), okk b (by simp)⟩
abbrev N_fold : List Str := ["row", "factor", "state", "number"]
-- fold(row, factor): slots 0:row 1:factor 2:state 3:number
def T_fold_b1 (K : PySem.W.Frag) : TS :=
    (tAsg (tOp uMod (tOp (uAdd K) (tOp (uAdd K) (tOp uMul (tVar 2) (tVar 1)) (tVar 3)) (tC (.int 1))) (tC (.int 4294967291))) (gName 2))
def T_fold (K : PySem.W.Frag) : TS :=
    (tSeq (tAsg (tC (.int 0)) (gName 2))
    (tSeq (tFor (iSq K (tVar 0)) (gName 3) (T_fold_b1 K))
    (tRet (tVar 2))))

def foldZ (f : Int) (xs : List Int) : Int := xs.foldl (fun s n => (s * f + n + 1) % 4294967291) 0
theorem foldZ_take {f : Int} {xs : List Int} {i : Nat} (h : i < xs.length) : foldZ f (xs.take (i + 1)) = (foldZ f (xs.take i) * f + xs.getD i 0 + 1) % 4294967291 := by
  unfold foldZ
  rw [take_dS 0 h, List.foldl_append]; rfl
theorem foldZ_bd (f : Int) (xs : List Int) : 0 ≤ foldZ f xs ∧ foldZ f xs < 4294967291 := by
  have : ∀ (l : List Int) (s : Int), 0 ≤ s ∧ s < 4294967291 → 0 ≤ l.foldl (fun s n => (s * f + n + 1) % 4294967291) s ∧ l.foldl (fun s n => (s * f + n + 1) % 4294967291) s < 4294967291 := by
    intro l
    induction l with
    | nil => exact fun s h => h
    | cons x r ih => exact fun s h => ih _ ⟨Int.emod_nonneg _ (by decide), Int.emod_lt_of_pos _ (by decide)⟩
  exact this xs 0 (by decide)
def sp_fold (K : PySem.W.Frag) : Sp := fun vs H Q _ => ∃ (r : Addr) (xs : List Int) (f : Int), vs = [.ref r, .int f] ∧ SqL K H r (xs.map V.int) ∧ Q (.int (foldZ f xs)) H
theorem fold_c {K : PySem.W.Frag} {r : Addr} {xs : List Int} {f : Int} {H : Hp} {Q : VK} {E : XK} (h : SqL K H r (xs.map V.int)) (q : Q (.int (foldZ f xs)) H) : sp_fold K [.ref r, .int f] H Q E := ⟨r, xs, f, rfl, h, q⟩
theorem w_fold {K : PySem.W.Frag} : Wd (T_fold K) N_fold 2 (sp_fold K) := fun vs H Q E h => by
  obtain ⟨r, xs, f, rfl, hr, q⟩ := h
  refine ⟨rfl, ?_⟩
  show T_fold K _ [some (.ref r), some (.int f), none, none] H
  unfold T_fold
  walk_at "zz"
  refine z_forL hr (fun i σ H' => H' = H ∧ ∃ w, σ = [some (.ref r), some (.int f), some (.int (foldZ f (xs.take i))), w]) ⟨rfl, _, rfl⟩ (fun i σ' H' hi h => by rw [h.1]; exact hr) ?_ ?_
  · rintro i x σ' H' hx ⟨rfl, w, rfl⟩
    obtain ⟨hi, rfl⟩ := map_int hx
    have bd := foldZ_bd f (xs.take i)
    unfold T_fold_b1
    walk_at "zz"
    exact ⟨rfl, _, by rw [foldZ_take hi]⟩
  · rintro σ' H' ⟨rfl, w, rfl⟩
    rw [List.length_map, List.take_length]
    walk_at "zz"
    exact q
abbrev N_mark_of : List Str := ["key", "number", "record", "row"]
-- mark_of(key, number, record): slots 0:key 1:number 2:record 3:row
def T_mark_of (K : PySem.W.Frag) (c : CEnv) : TS :=
    (tSeq (tAsg (tCal (sp_row_of K c) (tCons (tVar 1) (tCons (tVar 2) tNil))) (gName 3))
    (tRet (tTup (tCons (tCal (sp_fold K) (tCons (tVar 3) (tCons (tOp (uIx K) (tVar 0) (tC (.int 0))) tNil))) (tCons (tCal (sp_fold K) (tCons (tVar 3) (tCons (tOp (uIx K) (tVar 0) (tC (.int 1))) tNil))) tNil)))))

def sp_mark_of (K : PySem.W.Frag) (c : CEnv) : Sp := fun vs H Q _ => ∃ (k : Addr) (a b i : Int) (p : Addr) (n : Str) (xs : List Int) (fl : List (Str × V)) (ws : List (Str × Int)), vs = [.ref k, .int i, .ref p] ∧ SqT K H k [.int a, .int b] ∧ RecAt K c H p n xs (flV fl) (wsV ws) ∧ RecSm n xs fl ws ∧
  ∀ (t : Addr) H', H t = none → Same H H' → H' t = some (.tup [.int (foldZ a (rowZ i n xs fl ws)), .int (foldZ b (rowZ i n xs fl ws))]) → Q (.ref t) H'
theorem w_mark_of {K : PySem.W.Frag} {c : CEnv} : Wd (T_mark_of K c) N_mark_of 3 (sp_mark_of K c) := fun vs H Q E h => by
  obtain ⟨k, a, b, i, p, n, xs, fl, ws, rfl, hk, hr, sm, q⟩ := h
  refine ⟨rfl, ?_⟩
  show T_mark_of K c _ [some (.ref k), some (.int i), some (.ref p), none] H
  unfold T_mark_of
  walk_at "zz"
  refine row_of_c hr sm fun r H1 nr s1 er => ?_
  have hk1 := Same.sqT s1 hk
  walk_at "zz"
  refine fold_c (SqL.of er) ?_
  walk_at "zz"
  refine fold_c (SqL.of er) ?_
  walk_at "zz"
  rename_i t ht
  exact q t _ (fresh_same s1 ht) (Same.new ht s1) upd_same

/-! ### drawn parts of records -/
def kindV : V → Str
  | .bl _ => "flag"
  | .str _ => "text"
  | .int _ => "integer"
  | _ => ""
def PrsAt (H : Hp) (r : Addr) (prs : List (Str × V)) : Prop := ∃ ps : List Addr, H r = some (.lst (ps.map V.ref)) ∧ All2 (fun q (x : Str × V) => H q = some (.tup [.str x.1, x.2])) ps prs
def WdsAt (H : Hp) (r : Addr) (ws : List (Str × Int)) : Prop := ∃ ps : List Addr, H r = some (.lst (ps.map V.ref)) ∧ All2 (fun q (x : Str × Int) => H q = some (.tup [.str x.1, .int x.2])) ps ws
theorem PrsAt.exd {H H' : Hp} {r : Addr} {prs : List (Str × V)} (x : ExD H H') (h : PrsAt H r prs) : PrsAt H' r prs := ⟨h.choose, x _ _ NotSt.refs h.choose_spec.1, All2.imp (fun _ _ e => x _ _ NotSt.tup e) h.choose_spec.2⟩
theorem PrsAt.same {H H' : Hp} {r : Addr} {prs : List (Str × V)} (x : Same H H') (h : PrsAt H r prs) : PrsAt H' r prs := ⟨h.choose, x _ _ h.choose_spec.1, All2.imp (fun _ _ e => x _ _ e) h.choose_spec.2⟩
theorem WdsAt.exd {H H' : Hp} {r : Addr} {ws : List (Str × Int)} (x : ExD H H') (h : WdsAt H r ws) : WdsAt H' r ws := ⟨h.choose, x _ _ NotSt.refs h.choose_spec.1, All2.imp (fun _ _ e => x _ _ NotSt.tup e) h.choose_spec.2⟩
theorem WdsAt.same {H H' : Hp} {r : Addr} {ws : List (Str × Int)} (x : Same H H') (h : WdsAt H r ws) : WdsAt H' r ws := ⟨h.choose, x _ _ h.choose_spec.1, All2.imp (fun _ _ e => x _ _ e) h.choose_spec.2⟩
theorem PrsAt.pairs {K : PySem.W.Frag} {H : Hp} {r : Addr} {prs : List (Str × V)} (h : PrsAt H r prs) : PairsA K H r (flV prs) := by
  obtain ⟨ps, e, r⟩ := h
  refine ⟨ps, .inl (SqL.of e), ?_⟩
  clear e
  induction r with
  | nil => exact .nil
  | cons h t ih => exact .cons (SqT.of h) ih
theorem WdsAt.pairs {K : PySem.W.Frag} {H : Hp} {r : Addr} {ws : List (Str × Int)} (h : WdsAt H r ws) : PairsA K H r (wsV ws) := by
  obtain ⟨ps, e, r⟩ := h
  refine ⟨ps, .inl (SqL.of e), ?_⟩
  clear e
  induction r with
  | nil => exact .nil
  | cons h t ih => exact .cons (SqT.of h) ih
abbrev N_law_value : List Str := ["_law_state", "_law_kind_here"]
-- _law_value(_law_state, _law_kind): slots 0:_law_state 1:_law_kind
def T_law_value (K : PySem.W.Frag) : TS :=
    (tSeq (tIfS (tTest (tOp (uEq K) (tVar 1) (tC (.str "flag")))) (tRet (tOp (uEq K) (tCal (sp_law_next K) (tCons (tVar 0) (tCons (tC (.int 2)) tNil))) (tC (.int 0)))) tNext)
    (tSeq (tIfS (tTest (tOp (uEq K) (tVar 1) (tC (.str "text")))) (tRet (tOp (uIx K) (tLst (tCons (tC (.str "")) (tCons (tC (.str "red")) (tCons (tC (.str "blue")) (tCons (tC (.str "x y")) (tCons (tC (.str "a\\b")) tNil)))))) (tCal (sp_law_next K) (tCons (tVar 0) (tCons (tC (.int 5)) tNil))))) tNext)
    (tRet (tOp uMul (tOp (uIx K) (tLst (tCons (tC (.int 0)) (tCons (tC (.int 1)) (tCons (tUn uNeg (tC (.int 1))) (tCons (tC (.int 7)) (tCons (tOp uPow (tC (.int 10)) (tC (.int 12))) tNil)))))) (tCal (sp_law_next K) (tCons (tVar 0) (tCons (tC (.int 5)) tNil)))) (tOp (uAdd K) (tC (.int 1)) (tCal (sp_law_next K) (tCons (tVar 0) (tCons (tC (.int 2)) tNil))))))))

def TXV : List Str := ["", "red", "blue", "x y", "a\\b"]
theorem txv_ok : ∀ x ∈ TXV, x.length ≤ 100 := by decide +kernel
def sp_law_value (K : PySem.W.Frag) : Sp := fun vs H Q _ => ∃ (st L : Addr) (k : Str), vs = [.ref st, .str k] ∧ Draw H st L ∧ k ∈ KND ∧ ∀ (v : V) (H' : Hp), vSm v → kindV v = k → Draw H' st L → ExD H H' → Q v H'
theorem law_value_c {K : PySem.W.Frag} {st L : Addr} {k : Str} {H : Hp} {Q : VK} {E : XK} (d : Draw H st L) (hk : k ∈ KND) (q : ∀ (v : V) (H' : Hp), vSm v → kindV v = k → Draw H' st L → ExD H H' → Q v H') : sp_law_value K [.ref st, .str k] H Q E := ⟨st, L, k, rfl, d, hk, q⟩
theorem w_law_value {K : PySem.W.Frag} : Wd (T_law_value K) N_law_value 2 (sp_law_value K) := fun vs H Q E h => by
  obtain ⟨st, L, k, rfl, d, hk, q⟩ := h
  refine ⟨rfl, ?_⟩
  show T_law_value K _ [some (.ref st), some (.str k)] H
  unfold T_law_value
  walk_at "zz"
  refine z_itD (fun h => ?_) (fun h => ?_)
  · walk_at "zz"
    refine law_next_c d (by decide) (by decide) fun n H1 a1 b1 d1 x1 => ?_
    walk_at "zz"
    exact q _ H1 trivial h.symm d1 x1
  walk_at "zz"
  refine z_itD (fun h2 => ?_) (fun h2 => ?_)
  · walk_at "zz"
    rename_i c1 hc1
    have d1 := Draw.new (o := .lst (TXV.map V.str)) hc1 d
    refine law_next_c (by exact d1) (by decide) (by decide) fun n H1 a1 b1 d1' x1 => ?_
    have e1 : H1 c1 = some (.lst (TXV.map V.str)) := x1.lk upd_same NotSt.strs
    refine z_ix (.inl (SqL.of e1)) (str_at (ks := TXV) a1 b1) ?_
    exact q _ H1 (txv_ok _ (getD_mem' _ (by show n.toNat < 5; omega))) h2.symm d1' ((ExD.new hc1 (ExD.refl H)).trans x1)
  have hk3 : k = "integer" := by
    have : k = "integer" ∨ k = "text" ∨ k = "flag" := by simpa [KND] using hk
    rcases this with z | z | z
    · exact z
    · exact absurd z h2
    · exact absurd z h
  walk_at "zz"
  rename_i c1 hc1
  have d1 := Draw.new (o := .lst (([0, 1, -1, 7, 1000000000000] : List Int).map V.int)) hc1 d
  refine law_next_c (by exact d1) (by decide) (by decide) fun n H1 a1 b1 d1' x1 => ?_
  have e1 : H1 c1 = some (.lst (([0, 1, -1, 7, 1000000000000] : List Int).map V.int)) := x1.lk upd_same NotSt.ints
  refine z_ix (.inl (SqL.of e1)) (at_int a1 b1) ?_
  walk_at "zz"
  refine law_next_c d1' (by decide) (by decide) fun m H2 a2 b2 d2 x2 => ?_
  walk_at "zz"
  exact q _ H2 trivial hk3.symm d2 (((ExD.new hc1 (ExD.refl H)).trans x1).trans x2)
abbrev N_law_pairs : List Str := ["_law_state", "_law_fields_here", "_law_pairs_here", "_law_name_here", "_law_kind_here"]
-- _law_pairs(_law_state, _law_fields_here): slots 0:_law_state 1:_law_fields_here 2:_law_pairs_here 3:_law_name_here 4:_law_kind
def T_law_pairs_b1 (K : PySem.W.Frag) : TS :=
    (tIfS (tTest (tOp uGt (tCal (sp_law_next K) (tCons (tVar 0) (tCons (tC (.int 3)) tNil))) (tC (.int 0)))) (tDrop (tBM K "list" rAppend (tVar 2) (tCons (tTup (tCons (tVar 3) (tCons (tCal (sp_law_value K) (tCons (tVar 0) (tCons (tVar 4) tNil))) tNil))) tNil))) tNext)
def T_law_pairs (K : PySem.W.Frag) : TS :=
    (tSeq (tAsg (tLst tNil) (gName 2))
    (tSeq (tFor (iSq K (tVar 1)) (gTup K 2 (gCons (gName 3) (gCons (gName 4) gNil))) (T_law_pairs_b1 K))
    (tRet (tVar 2))))

def sp_law_pairs (K : PySem.W.Frag) : Sp := fun vs H Q _ => ∃ (st L f : Addr) (fl : List (Str × Str)), vs = [.ref st, .ref f] ∧ Draw H st L ∧ FldsAt H f fl ∧ (∀ x ∈ fl, x.2 ∈ KND) ∧ fl.length ≤ 100 ∧ ∀ (r : Addr) (prs : List (Str × V)) (H' : Hp), PrsAt H' r prs → (prs.map fun x => (x.1, kindV x.2)).Sublist fl → (∀ x ∈ prs, vSm x.2) → Draw H' st L → ExD H H' → Q (.ref r) H'
theorem law_pairs_c {K : PySem.W.Frag} {st L f : Addr} {fl : List (Str × Str)} {H : Hp} {Q : VK} {E : XK} (d : Draw H st L) (hf : FldsAt H f fl) (hk : ∀ x ∈ fl, x.2 ∈ KND) (hl : fl.length ≤ 100) (q : ∀ (r : Addr) (prs : List (Str × V)) (H' : Hp), PrsAt H' r prs → (prs.map fun x => (x.1, kindV x.2)).Sublist fl → (∀ x ∈ prs, vSm x.2) → Draw H' st L → ExD H H' → Q (.ref r) H') : sp_law_pairs K [.ref st, .ref f] H Q E := ⟨st, L, f, fl, rfl, d, hf, hk, hl, q⟩
theorem w_law_pairs {K : PySem.W.Frag} : Wd (T_law_pairs K) N_law_pairs 2 (sp_law_pairs K) := fun vs H Q E h => by
  obtain ⟨st, L, f, fl, rfl, d, ⟨fs, ef, rf⟩, hk, hl, q⟩ := h
  have lfs := All2.len rf
  refine ⟨rfl, ?_⟩
  show T_law_pairs K _ [some (.ref st), some (.ref f), none, none, none] H
  unfold T_law_pairs
  walk_at "zz"
  rename_i r hr
  have nr := Draw.ne hr d
  have nrL := Draw.neL hr d
  have d1 := Draw.new (o := .lst []) hr d
  refine z_forL (SqL.of (lk_new hr ef)) (fun i σ H' => ∃ (w3 w4 : Option V) (ps : List Addr) (prs : List (Str × V)), σ = [some (.ref st), some (.ref f), some (.ref r), w3, w4] ∧ Draw H' st L ∧ ExD H H' ∧ H' r = some (.lst (ps.map V.ref)) ∧ All2 (fun q (x : Str × V) => H' q = some (.tup [.str x.1, x.2])) ps prs ∧ (prs.map fun x => (x.1, kindV x.2)).Sublist (fl.take i) ∧ (∀ x ∈ prs, vSm x.2) ∧ prs.length ≤ i)
    ⟨_, _, [], [], rfl, d1, ExD.new hr (ExD.refl H), upd_same, .nil, .slnil, (fun _ h => nomatch h), by simp⟩ (fun i σ' H' hi z => ?_) ?_ ?_
  · obtain ⟨w3, w4, ps, prs, _, _, x, _⟩ := z
    exact SqL.of (x.lk ef NotSt.refs)
  · rintro i x σ' H2 hx ⟨w3, w4, ps, prs, rfl, d2, x2, er2, rp2, sub, sm, lp⟩
    obtain ⟨hi, rfl⟩ := map_ref hx
    have hi2 : i < fl.length := by omega
    have et := x2.lk (All2.atD rf 0 dF hi2) NotSt.tup
    have lpp := All2.len rp2
    refine z_gTup2 (SqT.of et) ?_
    unfold T_law_pairs_b1
    walk_at "zz"
    refine law_next_c d2 (by decide) (by decide) fun n H3 a3 b3 d3 x3 => ?_
    have er3 := x3.lk er2 NotSt.refs
    have rp3 : All2 (fun q (x : Str × V) => H3 q = some (.tup [.str x.1, x.2])) ps prs := All2.imp (fun _ _ e => x3 _ _ NotSt.tup e) rp2
    walk_at "zz"
    refine z_itD (fun h => ?_) (fun h => ?_)
    · walk_at "zz"
      refine law_value_c d3 (hk _ (getD_mem' dF hi2)) fun v H4 sv kv d4 x4 => ?_
      have er4 := x4.lk er3 NotSt.refs
      have rp4 : All2 (fun q (x : Str × V) => H4 q = some (.tup [.str x.1, x.2])) ps prs := All2.imp (fun _ _ e => x4 _ _ NotSt.tup e) rp3
      walk_at "zz"
      rename_i u hu
      refine z_app (lk_new hu er4) (by rw [List.length_map]; omega) ?_
      refine ⟨_, _, ps ++ [u], prs ++ [((fl.getD i dF).1, v)], rfl, Draw.put nr nrL (Draw.new hu d4), ?_, by rw [upd_same, ref_app], ?_, ?_, ?_, by simp; omega⟩
      · intro b o no eb
        exact lk_ne (ne_of_none eb hr) (lk_new hu (x4 _ _ no (x3 _ _ no (x2 b o no eb))))
      · refine All2.app (All2.imp (fun _ _ e => lk_df (lk_new hu e) (lk_new hu er4) (fun z => by cases z)) rp4) ?_
        exact lk_df upd_same (lk_new hu er4) (fun z => by cases z)
      · rw [take_dS dF hi2, List.map_append]
        refine sub.append ?_
        rw [show ([((fl.getD i dF).1, v)] : List (Str × V)).map (fun x => (x.1, kindV x.2)) = [fl.getD i dF] by simp [kv]]
        exact List.Sublist.refl _
      · intro x hx
        rcases List.mem_append.mp hx with h | h
        · exact sm x h
        · rw [List.mem_singleton.mp h]; exact sv
    · walk_at "zz"
      refine ⟨_, _, ps, prs, rfl, d3, x2.trans x3, er3, rp3, ?_, sm, by omega⟩
      rw [take_dS dF hi2]
      exact sub.trans (List.sublist_append_left _ _)
  · rintro σ' H2 ⟨w3, w4, ps, prs, rfl, d2, x2, er2, rp2, sub, sm, lp⟩
    rw [List.length_map, lfs, List.take_length] at sub
    walk_at "zz"
    exact q r prs H2 ⟨ps, er2, rp2⟩ sub sm d2 x2
abbrev N_law_words : List Str := ["_law_state", "_law_words_here", "_law_word"]
-- _law_words(_law_state): slots 0:_law_state 1:_law_words_here 2:_law_word
def T_law_words_b1 (K : PySem.W.Frag) : TS :=
    (tIfS (tTest (tOp (uEq K) (tCal (sp_law_next K) (tCons (tVar 0) (tCons (tC (.int 2)) tNil))) (tC (.int 0)))) (tDrop (tBM K "list" rAppend (tVar 1) (tCons (tTup (tCons (tVar 2) (tCons (tOp (uAdd K) (tC (.int 1)) (tOp uMul (tCal (sp_law_next K) (tCons (tVar 0) (tCons (tC (.int 3)) tNil))) (tCal (sp_law_next K) (tCons (tVar 0) (tCons (tC (.int 20)) tNil))))) tNil))) tNil))) tNext)
def T_law_words (K : PySem.W.Frag) : TS :=
    (tSeq (tAsg (tLst tNil) (gName 1))
    (tSeq (tFor (iSq K (tLst (tCons (tC (.str "ant")) (tCons (tC (.str "bee")) (tCons (tC (.str "cow")) (tCons (tC (.str "dog")) tNil)))))) (gName 2) (T_law_words_b1 K))
    (tRet (tVar 1))))

def WZ : List Str := ["ant", "bee", "cow", "dog"]
def sp_law_words (K : PySem.W.Frag) : Sp := fun vs H Q _ => ∃ (st L : Addr), vs = [.ref st] ∧ Draw H st L ∧ ∀ (r : Addr) (ws : List (Str × Int)) (H' : Hp), WdsAt H' r ws → (ws.map (·.1)).Sublist WZ → (∀ x ∈ ws, 1 ≤ x.2 ∧ x.2 ≤ 39) → Draw H' st L → ExD H H' → Q (.ref r) H'
theorem law_words_c {K : PySem.W.Frag} {st L : Addr} {H : Hp} {Q : VK} {E : XK} (d : Draw H st L) (q : ∀ (r : Addr) (ws : List (Str × Int)) (H' : Hp), WdsAt H' r ws → (ws.map (·.1)).Sublist WZ → (∀ x ∈ ws, 1 ≤ x.2 ∧ x.2 ≤ 39) → Draw H' st L → ExD H H' → Q (.ref r) H') : sp_law_words K [.ref st] H Q E := ⟨st, L, rfl, d, q⟩
theorem w_law_words {K : PySem.W.Frag} : Wd (T_law_words K) N_law_words 1 (sp_law_words K) := fun vs H Q E h => by
  obtain ⟨st, L, rfl, d, q⟩ := h
  refine ⟨rfl, ?_⟩
  show T_law_words K _ [some (.ref st), none, none] H
  unfold T_law_words
  walk_at "zz"
  rename_i r hr cw hcw
  have nr := Draw.ne hr d
  have nrL := Draw.neL hr d
  have d1 := Draw.new (o := .lst []) hr d
  have d2 := Draw.new (o := .lst (WZ.map V.str)) hcw d1
  have nrc : r ≠ cw := ne_of_none upd_same hcw
  have s2 : Same H (upd (upd H r (.lst [])) cw (.lst (WZ.map V.str))) := Same.new hcw (Same.new hr (Same.refl H))
  have er : upd (upd H r (.lst [])) cw (.lst (WZ.map V.str)) r = some (.lst (([] : List Addr).map V.ref)) := lk_ne nrc upd_same
  have ew : upd (upd H r (.lst [])) cw (.lst (WZ.map V.str)) cw = some (.lst (WZ.map V.str)) := upd_same
  show zForS _ _ _ _ _ _ (upd (upd H r (.lst [])) cw (.lst (WZ.map V.str)))
  generalize upd (upd H r (.lst [])) cw (.lst (WZ.map V.str)) = H2 at *
  refine z_forL (SqL.of ew) (fun i σ H' => ∃ (w2 : Option V) (ps : List Addr) (ws : List (Str × Int)), σ = [some (.ref st), some (.ref r), w2] ∧ Draw H' st L ∧ ExD H H' ∧ H' cw = some (.lst (WZ.map V.str)) ∧ H' r = some (.lst (ps.map V.ref)) ∧ All2 (fun q (x : Str × Int) => H' q = some (.tup [.str x.1, .int x.2])) ps ws ∧ (ws.map (·.1)).Sublist (WZ.take i) ∧ (∀ x ∈ ws, 1 ≤ x.2 ∧ x.2 ≤ 39) ∧ ws.length ≤ i)
    ⟨_, [], [], rfl, d2, ExD.of s2, ew, er, .nil, .slnil, (fun _ h => nomatch h), by simp⟩ (fun i σ' H' hi z => ?_) ?_ ?_
  · obtain ⟨w2, ps, ws, _, _, _, e, _⟩ := z
    exact SqL.of e
  · rintro i x σ' H3 hx ⟨w2, ps, ws, rfl, d3, x3, ew3, er3, rp3, sub, cn, lp⟩
    have hi : i < WZ.length := by
      have := (List.getElem?_eq_some_iff.mp hx).1
      simpa using this
    have ex : x = .str (WZ.getD i "") := by
      rw [List.getElem?_map, List.getElem?_eq_getElem hi] at hx
      rw [List.getD_eq_getElem?_getD, List.getElem?_eq_getElem hi]
      exact (Option.some.inj hx).symm
    subst ex
    have hi4 : i < 4 := hi
    have lpp := All2.len rp3
    refine z_gName ?_
    unfold T_law_words_b1
    walk_at "zz"
    refine law_next_c d3 (by decide) (by decide) fun n H4 a4 b4 d4 x4 => ?_
    have ew4 := x4.lk ew3 NotSt.strs
    have er4 := x4.lk er3 NotSt.refs
    have rp4 : All2 (fun q (x : Str × Int) => H4 q = some (.tup [.str x.1, .int x.2])) ps ws := All2.imp (fun _ _ e => x4 _ _ NotSt.tup e) rp3
    walk_at "zz"
    refine z_itD (fun h => ?_) (fun h => ?_)
    · walk_at "zz"
      refine law_next_c d4 (by decide) (by decide) fun n5 H5 a5 b5 d5 x5 => ?_
      walk_at "zz"
      refine law_next_c d5 (by decide) (by decide) fun n6 H6 a6 b6 d6 x6 => ?_
      have x46 := x5.trans x6
      have ew6 := x46.lk ew4 NotSt.strs
      have er6 := x46.lk er4 NotSt.refs
      have rp6 : All2 (fun q (x : Str × Int) => H6 q = some (.tup [.str x.1, .int x.2])) ps ws := All2.imp (fun _ _ e => x46 _ _ NotSt.tup e) rp4
      have bd : 1 ≤ 1 + n5 * n6 ∧ 1 + n5 * n6 ≤ 39 := by
        have h5 : n5 = 0 ∨ n5 = 1 ∨ n5 = 2 := by omega
        rcases h5 with rfl | rfl | rfl <;> omega
      walk_at "zz"
      rename_i u hu
      refine z_app (lk_new hu er6) (by rw [List.length_map]; omega) ?_
      refine ⟨_, ps ++ [u], ws ++ [(WZ.getD i "", 1 + n5 * n6)], rfl, Draw.put nr nrL (Draw.new hu d6), ?_, lk_ne nrc.symm (lk_new hu ew6), by rw [upd_same, ref_app], ?_, ?_, ?_, by simp; omega⟩
      · intro b o no eb
        exact lk_ne (ne_of_none eb hr) (lk_new hu (x46 _ _ no (x4 _ _ no (x3 b o no eb))))
      · refine All2.app (All2.imp (fun _ _ e => lk_df (lk_new hu e) (lk_new hu er6) (fun z => by cases z)) rp6) ?_
        exact lk_df upd_same (lk_new hu er6) (fun z => by cases z)
      · rw [take_dS ("" : Str) hi, List.map_append]
        exact sub.append (List.Sublist.refl _)
      · intro x hx
        rcases List.mem_append.mp hx with h | h
        · exact cn x h
        · rw [List.mem_singleton.mp h]; exact bd
    · walk_at "zz"
      refine ⟨_, ps, ws, rfl, d4, x3.trans x4, ew4, er4, rp4, ?_, cn, by omega⟩
      rw [take_dS ("" : Str) hi]
      exact sub.trans (List.sublist_append_left _ _)
  · rintro σ' H3 ⟨w2, ps, ws, rfl, d3, x3, ew3, er3, rp3, sub, cn, lp⟩
    rw [List.length_map, List.take_length] at sub
    walk_at "zz"
    exact q r ws H3 ⟨ps, er3, rp3⟩ sub cn d3 x3
abbrev N_law_name : List Str := ["_law_state"]
-- _law_name(_law_state): slots 0:_law_state
def T_law_name (K : PySem.W.Frag) : TS :=
    (tRet (tOp (uIx K) (tLst (tCons (tC (.str "a")) (tCons (tC (.str "b")) (tCons (tC (.str "ba")) (tCons (tC (.str "c")) (tCons (tC (.str "k9")) (tCons (tC (.str "z z")) tNil))))))) (tCal (sp_law_next K) (tCons (tVar 0) (tCons (tC (.int 6)) tNil)))))

def NZ : List Str := ["a", "b", "ba", "c", "k9", "z z"]
theorem nz_ok : ∀ x ∈ NZ, x.length ≤ 100 ∧ x ≠ "" := by decide +kernel
def sp_law_name (K : PySem.W.Frag) : Sp := fun vs H Q _ => ∃ (st L : Addr), vs = [.ref st] ∧ Draw H st L ∧ ∀ (x : Str) (H' : Hp), x ∈ NZ → Draw H' st L → ExD H H' → Q (.str x) H'
theorem law_name_c {K : PySem.W.Frag} {st L : Addr} {H : Hp} {Q : VK} {E : XK} (d : Draw H st L) (q : ∀ (x : Str) (H' : Hp), x ∈ NZ → Draw H' st L → ExD H H' → Q (.str x) H') : sp_law_name K [.ref st] H Q E := ⟨st, L, rfl, d, q⟩
theorem w_law_name {K : PySem.W.Frag} : Wd (T_law_name K) N_law_name 1 (sp_law_name K) := fun vs H Q E h => by
  obtain ⟨st, L, rfl, d, q⟩ := h
  refine ⟨rfl, ?_⟩
  show T_law_name K _ [some (.ref st)] H
  unfold T_law_name
  walk_at "zz"
  rename_i c1 hc1
  have d1 := Draw.new (o := .lst (NZ.map V.str)) hc1 d
  refine law_next_c (by exact d1) (by decide) (by decide) fun n H1 a1 b1 d1' x1 => ?_
  have e1 : H1 c1 = some (.lst (NZ.map V.str)) := x1.lk upd_same NotSt.strs
  refine z_ix (.inl (SqL.of e1)) (str_at (ks := NZ) a1 b1) ?_
  exact q _ H1 (getD_mem' _ (by show n.toNat < 6; omega)) d1' ((ExD.new hc1 (ExD.refl H)).trans x1)

/-! list.count of flat values -/
def rCountF (K : PySem.W.Frag) : V → List V → Hp → VK → Prop := fun x xs H Q => ∃ (a : Addr) (ys : List V) (y : V), x = V.ref a ∧ xs = [y] ∧ SqL K H a ys ∧ flatV y = true ∧ ys.all flatV = true ∧ Q (.int (ys.countP (fun z => eqV z y) : Nat)) H
theorem countP_eqU {y : V} : ∀ {ys : List V} {us : List Value}, Vals ys us → ys.all flatV = true → us.countP (eqU y) = ys.countP (fun z => eqV z y)
  | _, _, .nil, _ => rfl
  | _, _, .cons r t, h => by
    rw [List.all_cons, Bool.and_eq_true] at h
    rw [List.countP_cons, List.countP_cons, countP_eqU t h.2, eqU_of r h.1]
theorem mt_countF {X : Cx} : MtR X "list.count" (rCountF X.K) := by
  intro pins s σ H x xs v us Q I rx rxs h
  obtain ⟨a, ys, y, rfl, rfl, hs, fy, fys, q⟩ := h
  cases rx
  cases rxs with
  | cons ry rt =>
    rename_i uy ut
    cases rt
    obtain ⟨its, rv, ⟨⟨cls, dd, data, sl⟩, n, ho, hc, hdn, hd⟩, hlen⟩ := I.list hs
    simp only at hc hd
    subst hc hd
    refine call_meets PySem.F.slot_list_count ⟨_, ho, rfl⟩ PySem.F.entry_list_count (PySem.F.args_list_count_2 _ _)
      (SeqAt.list_countAt a its.toArray n dd sl uy (eqU y)) ⟨ho, fun u' hu' => mem_eqAt ry fy rv fys u' (by simpa using hu'), ?_⟩
    have ec : its.toArray.toList.countP (eqU y) = ys.countP (fun z => eqV z y) := countP_eqU rv fys
    refine ⟨.int (ys.countP (fun z => eqV z y) : Nat), H, I.tok _, ⟨s.toks, ?_⟩, q⟩
    show Value.int ((its.toArray.toList.countP (eqU y) : Nat) : Int) s.toks = _
    rw [ec]
theorem z_countS {K : PySem.W.Frag} {H : Hp} {Q : VK} {a : Addr} {ks : List Str} {x : Str} (h : SqL K H a (ks.map V.str)) (k : Q (.int (ks.count x : Nat)) H) : rCountF K (.ref a) [.str x] H Q :=
  ⟨a, _, _, rfl, rfl, h, rfl, flat_strs ks, by rw [List.countP_map]; exact k⟩
/-! == of lists of pairs of texts -/
theorem EqB.pr {K : PySem.W.Frag} {H : Hp} {p q : Addr} {x y : Str × Str} (h1 : SqT K H p [.str x.1, .str x.2]) (h2 : SqT K H q [.str y.1, .str y.2]) : EqB K H 1 (.ref p) (.ref q) (decide (x = y)) :=
  EqB.of (e := fun i => if i = 0 then decide (x.1 = y.1) else decide (x.2 = y.2)) (.inl ⟨h1, h2⟩) (fun i u v e1 e2 => by
    match i with
    | 0 => cases e1; cases e2; exact EqB.str
    | 1 => cases e1; cases e2; exact EqB.str
    | i + 2 => cases e1) (by
    rw [Bool.eq_iff_iff, decide_eq_true_iff, Prod.ext_iff]; simp [allB, List.range_succ])
theorem prs_e {K : PySem.W.Frag} {H : Hp} {ps qs : List Addr} {l m : List (Str × Str)} (r1 : All2 (PairAt K H) ps (fV l)) (r2 : All2 (PairAt K H) qs (fV m)) : ∀ (i : Nat) (x y : V), (ps.map V.ref)[i]? = some x → (qs.map V.ref)[i]? = some y → EqB K H 1 x y (decide (l.getD i dF = m.getD i dF)) := by
  intro i x y e1 e2
  obtain ⟨h1, rfl⟩ := map_ref e1
  obtain ⟨h2, rfl⟩ := map_ref e2
  have n1 := All2.len r1
  have n2 := All2.len r2
  have m1 : (fV l).length = l.length := by simp [fV]
  have m2 : (fV m).length = m.length := by simp [fV]
  have a1 := All2.atD r1 0 (V.non, V.non) (show i < (fV l).length by omega)
  have a2 := All2.atD r2 0 (V.non, V.non) (show i < (fV m).length by omega)
  rw [fV_at (by omega)] at a1 a2
  exact EqB.pr a1 a2
theorem prs_b {K : PySem.W.Frag} {H : Hp} {ps qs : List Addr} {l m : List (Str × Str)} (r1 : All2 (PairAt K H) ps (fV l)) (r2 : All2 (PairAt K H) qs (fV m)) : decide (l = m) = allB (ps.map V.ref) (qs.map V.ref) (fun i => decide (l.getD i dF = m.getD i dF)) := by
  have n1 := All2.len r1
  have n2 := All2.len r2
  have m1 : (fV l).length = l.length := by simp [fV]
  have m2 : (fV m).length = m.length := by simp [fV]
  unfold allB
  rw [Bool.eq_iff_iff, decide_eq_true_iff, Bool.and_eq_true, List.all_eq_true, beq_iff_eq, List.length_map, List.length_map]
  constructor
  · rintro rfl
    exact ⟨fun i _ => by rw [decide_eq_true_iff], by omega⟩
  · rintro ⟨h, hl⟩
    refine List.ext_getElem (by omega) fun i h1 h2 => ?_
    have z := h i (List.mem_range.mpr (by omega))
    rw [decide_eq_true_iff, List.getD_eq_getElem?_getD, List.getD_eq_getElem?_getD, List.getElem?_eq_getElem h1, List.getElem?_eq_getElem h2] at z
    exact z
theorem rng_at {w : Str} (h : w ∈ WDT) : RNG.lookup w = some (.t [.int (lowW w), .int (highW w)]) := by
  have : w = "bit" ∨ w = "small" ∨ w = "wide" := by simpa [WDT] using h
  unfold RNG
  rcases this with rfl | rfl | rfl
  · rw [List.lookup_cons]; rfl
  · rw [List.lookup_cons, show (("small" : Str) == "bit") = false by decide +kernel, List.lookup_cons]; rfl
  · rw [List.lookup_cons, show (("wide" : Str) == "bit") = false by decide +kernel, List.lookup_cons, show (("wide" : Str) == "small") = false by decide +kernel, List.lookup_cons]; rfl
abbrev N_Schema_least : List Str := ["self"]
-- Schema.least(self): slots 0:self
def T_Schema_least (K : PySem.W.Frag) : TS :=
    (tRet (tOp (uIx K) (tKix K [("bit", .t [.int 0, .int 1]), ("small", .t [.int (-128), .int 127]), ("wide", .t [.int (-32768), .int 32767])] (tFld K (tVar 0) "width")) (tC (.int 0))))

def sp_Schema_least (K : PySem.W.Frag) (c : CEnv) : Sp := fun vs H Q _ => ∃ (p : Addr) (size : Int) (w m : Str) (fl : List (Str × Str)), vs = [.ref p] ∧ SchAt K c H p size w m fl ∧ w ∈ WDT ∧ Q (.int (lowW w)) H
theorem Schema_least_c {K : PySem.W.Frag} {c : CEnv} {p : Addr} {size : Int} {w m : Str} {fl : List (Str × Str)} {H : Hp} {Q : VK} {E : XK} (h : SchAt K c H p size w m fl) (hw : w ∈ WDT) (q : Q (.int (lowW w)) H) : sp_Schema_least K c [.ref p] H Q E := ⟨p, size, w, m, fl, rfl, h, hw, q⟩
theorem w_Schema_least {K : PySem.W.Frag} {c : CEnv} : Wd (T_Schema_least K) N_Schema_least 1 (sp_Schema_least K c) := fun vs H Q E h => by
  obtain ⟨p, size, w, m, fl, rfl, ⟨tf, ⟨ok, dx, e⟩, _⟩, hw, q⟩ := h
  refine ⟨rfl, ?_⟩
  show T_Schema_least K _ [some (.ref p)] H
  unfold T_Schema_least
  walk_at "zz"
  refine ⟨w, _, rfl, rng_at hw, fun v hv => ?_⟩
  obtain ⟨a, rfl, hs⟩ := hv
  walk_at "zz"
  refine z_ix (.inr (hs H)) (v := .int (lowW w)) rfl ?_
  exact q
abbrev N_Schema_greatest : List Str := ["self"]
-- Schema.greatest(self): slots 0:self
def T_Schema_greatest (K : PySem.W.Frag) : TS :=
    (tRet (tOp (uIx K) (tKix K [("bit", .t [.int 0, .int 1]), ("small", .t [.int (-128), .int 127]), ("wide", .t [.int (-32768), .int 32767])] (tFld K (tVar 0) "width")) (tC (.int 1))))

def sp_Schema_greatest (K : PySem.W.Frag) (c : CEnv) : Sp := fun vs H Q _ => ∃ (p : Addr) (size : Int) (w m : Str) (fl : List (Str × Str)), vs = [.ref p] ∧ SchAt K c H p size w m fl ∧ w ∈ WDT ∧ Q (.int (highW w)) H
theorem Schema_greatest_c {K : PySem.W.Frag} {c : CEnv} {p : Addr} {size : Int} {w m : Str} {fl : List (Str × Str)} {H : Hp} {Q : VK} {E : XK} (h : SchAt K c H p size w m fl) (hw : w ∈ WDT) (q : Q (.int (highW w)) H) : sp_Schema_greatest K c [.ref p] H Q E := ⟨p, size, w, m, fl, rfl, h, hw, q⟩
theorem w_Schema_greatest {K : PySem.W.Frag} {c : CEnv} : Wd (T_Schema_greatest K) N_Schema_greatest 1 (sp_Schema_greatest K c) := fun vs H Q E h => by
  obtain ⟨p, size, w, m, fl, rfl, ⟨tf, ⟨ok, dx, e⟩, _⟩, hw, q⟩ := h
  refine ⟨rfl, ?_⟩
  show T_Schema_greatest K _ [some (.ref p)] H
  unfold T_Schema_greatest
  walk_at "zz"
  refine ⟨w, _, rfl, rng_at hw, fun v hv => ?_⟩
  obtain ⟨a, rfl, hs⟩ := hv
  walk_at "zz"
  refine z_ix (.inr (hs H)) (v := .int (highW w)) rfl ?_
  exact q
abbrev N_Schema_kind_of : List Str := ["self", "name", "field", "kind"]
-- Schema.kind_of(self, name): slots 0:self 1:name 2:field 3:kind
def T_Schema_kind_of_b1 (K : PySem.W.Frag) : TS :=
    (tIfS (tTest (tOp (uEq K) (tVar 2) (tVar 1))) (tRet (tVar 3)) tNext)
def T_Schema_kind_of (K : PySem.W.Frag) : TS :=
    (tSeq (tFor (iSq K (tFld K (tVar 0) "fields")) (gTup K 2 (gCons (gName 2) (gCons (gName 3) gNil))) (T_Schema_kind_of_b1 K))
    (tRet (tC .non)))

def kdV (fl : List (Str × Str)) (x : Str) : V := match fl.find? (fun f => decide (f.1 = x)) with
  | some f => .str f.2
  | none => .non
def sp_Schema_kind_of (K : PySem.W.Frag) (c : CEnv) : Sp := fun vs H Q _ => ∃ (p : Addr) (size : Int) (w m x : Str) (fl : List (Str × Str)), vs = [.ref p, .str x] ∧ SchAt K c H p size w m fl ∧ Q (kdV fl x) H
theorem Schema_kind_of_c {K : PySem.W.Frag} {c : CEnv} {p : Addr} {size : Int} {w m x : Str} {fl : List (Str × Str)} {H : Hp} {Q : VK} {E : XK} (h : SchAt K c H p size w m fl) (q : Q (kdV fl x) H) : sp_Schema_kind_of K c [.ref p, .str x] H Q E := ⟨p, size, w, m, x, fl, rfl, h, q⟩
theorem find_take {fl : List (Str × Str)} {x : Str} {i : Nat} (hi : i < fl.length) (h : ∀ f ∈ fl.take i, f.1 ≠ x) (e : (fl.getD i dF).1 = x) : fl.find? (fun f => decide (f.1 = x)) = some (fl.getD i dF) := by
  have z : fl = fl.take i ++ (fl.getD i dF :: fl.drop (i + 1)) := by
    rw [List.getD_eq_getElem?_getD, List.getElem?_eq_getElem hi]
    show fl = fl.take i ++ (fl[i] :: fl.drop (i + 1))
    rw [List.getElem_cons_drop, List.take_append_drop]
  have n : (fl.take i).find? (fun f => decide (f.1 = x)) = none := by
    rw [List.find?_eq_none]
    intro f hf
    simpa using h f hf
  generalize fl.getD i dF = y at *
  rw [z, List.find?_append, n, List.find?_cons, decide_eq_true e]
  rfl
theorem w_Schema_kind_of {K : PySem.W.Frag} {c : CEnv} : Wd (T_Schema_kind_of K) N_Schema_kind_of 2 (sp_Schema_kind_of K c) := fun vs H Q E h => by
  obtain ⟨p, size, w, m, x, fl, rfl, ⟨tf, ⟨ok, dx, e⟩, ps, ef, rf⟩, q⟩ := h
  have lf := All2.len rf
  have lf2 : (fV fl).length = fl.length := by simp [fV]
  refine ⟨rfl, ?_⟩
  show T_Schema_kind_of K _ [some (.ref p), some (.str x), none, none] H
  unfold T_Schema_kind_of
  walk_at "zz"
  refine z_forT ef (fun i σ H' => H' = H ∧ (∀ f ∈ fl.take i, f.1 ≠ x) ∧ ∃ w2 w3, σ = [some (.ref p), some (.str x), w2, w3]) ⟨rfl, (fun _ h => nomatch h), _, _, rfl⟩ (fun i σ' H' _ z => by rw [z.1]; exact ef) ?_ ?_
  · rintro i y σ' H' hy ⟨rfl, no, w2, w3, rfl⟩
    obtain ⟨hi, rfl⟩ := map_ref hy
    have hi2 : i < fl.length := by omega
    have ep := All2.atD rf 0 (V.non, V.non) (show i < (fV fl).length by omega)
    rw [fV_at hi2] at ep
    refine z_gTup2 ep ?_
    unfold T_Schema_kind_of_b1
    walk_at "zz"
    refine z_itD (fun h => ?_) (fun h => ?_)
    · walk_at "zz"
      unfold kdV at q
      rw [find_take hi2 no h] at q
      exact q
    · walk_at "zz"
      refine ⟨rfl, ?_, _, _, rfl⟩
      rw [take_dS dF hi2]
      intro f hf
      rcases List.mem_append.mp hf with hf | hf
      · exact no f hf
      · rw [List.mem_singleton.mp hf]; exact h
  · rintro σ' H' ⟨rfl, no, w2, w3, rfl⟩
    rw [List.length_map, lf, lf2, List.take_length] at no
    walk_at "zz"
    unfold kdV at q
    rw [List.find?_eq_none.mpr (fun f hf => by simpa using no f hf)] at q
    exact q
abbrev N_Schema_eq : List Str := ["self", "other"]
-- Schema.__eq__(self, other): slots 0:self 1:other
def T_Schema_eq (K : PySem.W.Frag) (c : CEnv) : TS :=
    (tSeq (tIfS (tNot (tTru K (tCB (uIsi K) (tCons (tVar 1) (tCons (tCls K c "Schema") tNil))))) (tRet (tC (.bl false))) tNext)
    (tSeq (tIfS (tOr (tTest (tOp (uNe K) (tFld K (tVar 0) "size") (tFld K (tVar 1) "size"))) (tTest (tOp (uNe K) (tFld K (tVar 0) "width") (tFld K (tVar 1) "width")))) (tRet (tC (.bl false))) tNext)
    (tRet (tAndV (tOp (uEq K) (tFld K (tVar 0) "measure") (tFld K (tVar 1) "measure")) (tOp (uEq K) (tFld K (tVar 0) "fields") (tFld K (tVar 1) "fields"))))))

abbrev D4 : Type := Int × Str × Str × List (Str × Str)
def sp_Schema_eq (K : PySem.W.Frag) (c : CEnv) : Sp := fun vs H Q _ => ∃ (p r : Addr) (x : D4), vs = [.ref p, .ref r] ∧ SchAt K c H p x.1 x.2.1 x.2.2.1 x.2.2.2 ∧ ((∃ y : D4, SchAt K c H r y.1 y.2.1 y.2.2.1 y.2.2.2 ∧ Q (.bl (decide (x = y))) H) ∨ (∃ xs, H r = some (.tup xs) ∧ Q (.bl false) H))
theorem d4_eq {a b : Int} {c d e f : Str} {g h : List (Str × Str)} : ((a, c, e, g) : D4) = (b, d, f, h) ↔ a = b ∧ c = d ∧ e = f ∧ g = h := by
  simp only [Prod.mk.injEq]
theorem w_Schema_eq {K : PySem.W.Frag} {c : CEnv} : Wd (T_Schema_eq K c) N_Schema_eq 2 (sp_Schema_eq K c) := fun vs H Q E h => by
  obtain ⟨p, r, ⟨size, w, m, fl⟩, rfl, ⟨tf, ⟨ok, dx, h1⟩, ps, ef, rf⟩, h⟩ := h
  refine ⟨rfl, ?_⟩
  show T_Schema_eq K c _ [some (.ref p), some (.ref r)] H
  unfold T_Schema_eq
  rcases h with ⟨⟨size', w', m', fl'⟩, ⟨tf', ⟨ok', dy, h2⟩, ps', ef', rf'⟩, q⟩ | ⟨xs, h2, q⟩
  · replace h1 : H p = some (.ins (c.cls "Schema") dx (schF size w m tf)) := h1
    replace h2 : H r = some (.ins (c.cls "Schema") dy (schF size' w' m' tf')) := h2
    replace ok : ClsOk K c "Schema" ["size", "width", "measure", "fields"] := ok
    walk_at "zz"
    rename_i I
    refine z_isIns I ok h2 ?_
    rw [show SUB "Schema" "Schema" = true by decide +kernel]
    walk_at "zx"
    by_cases e1 : size = size'
    case neg =>
      rw [decide_eq_false e1]
      walk_at "zx"
      rw [decide_eq_false (fun z => e1 (d4_eq.mp z).1)] at q
      exact q
    rw [decide_eq_true e1]
    walk_at "zx"
    by_cases e2 : w = w'
    case neg =>
      rw [decide_eq_false e2]
      walk_at "zx"
      rw [decide_eq_false (fun z => e2 (d4_eq.mp z).2.1)] at q
      exact q
    rw [decide_eq_true e2]
    walk_at "zx"
    by_cases e3 : m = m'
    case neg =>
      rw [decide_eq_false e3]
      walk_at "zx"
      rw [decide_eq_false (fun z => e3 (d4_eq.mp z).2.2.1)] at q
      exact q
    rw [decide_eq_true e3]
    walk_at "zx"
    refine z_eqOf (n := 1) (by decide) (.inl ⟨ef, ef'⟩) (prs_e rf rf') (prs_b rf rf') ?_
    rw [show decide (((size, w, m, fl) : D4) = (size', w', m', fl')) = decide (fl = fl') by rw [Bool.eq_iff_iff, decide_eq_true_iff, decide_eq_true_iff, d4_eq]; exact ⟨fun z => z.2.2.2, fun z => ⟨e1, e2, e3, z⟩⟩] at q
    exact q
  · walk_at "zz"
    rename_i I
    refine z_isi (ClsV.own _) (TyX.base (.tup h2)) (I.ki "tuple" (by decide)) ?_
    walk_at "zx"
    exact q

def DrAtF (H : Hp) (t f : Addr) (x : D4) : Prop := H t = some (.tup [.int x.1, .str x.2.1, .str x.2.2.1, .ref f]) ∧ FldsAt H f x.2.2.2
def DrAt (H : Hp) (t : Addr) (x : D4) : Prop := ∃ f, DrAtF H t f x
theorem DrAt.exd {H H' : Hp} {t : Addr} {x : D4} (e : ExD H H') (h : DrAt H t x) : DrAt H' t x := ⟨h.choose, e.lk h.choose_spec.1 NotSt.tup, h.choose_spec.2.exd e⟩
theorem DrAt.same {H H' : Hp} {t : Addr} {x : D4} (e : Same H H') (h : DrAt H t x) : DrAt H' t x := ⟨h.choose, e _ _ h.choose_spec.1, h.choose_spec.2.same e⟩
theorem z_gTup4 {K : PySem.W.Frag} {H : Hp} {σ : L2.St} {P : L2.St → Hp → Prop} {t : Addr} {a b d f : V} {u v w x : Nat} (h : SqT K H t [a, b, d, f]) (k : P ((((σ.set u (some a)).set v (some b)).set w (some d)).set x (some f)) H) : gTup K 4 (gCons (gName u) (gCons (gName v) (gCons (gName w) (gCons (gName x) gNil)))) (.ref t) σ H P :=
  ⟨t, [a, b, d, f], rfl, h, rfl, a, [b, d, f], rfl, b, [d, f], rfl, d, [f], rfl, f, [], rfl, rfl, k⟩
theorem flds_pairs {K : PySem.W.Frag} {H : Hp} {ps : List Addr} {fl : List (Str × Str)} (r : All2 (fun q (x : Str × Str) => H q = some (.tup [.str x.1, .str x.2])) ps fl) : All2 (PairAt K H) ps (fV fl) := by
  induction r with
  | nil => exact .nil
  | cons h t ih => exact .cons (SqT.of h) ih

/-! ### when a record is of a schema -/
section
variable {α σ : Type} {step : σ → α → Option σ} {s : σ} {l : List α} {i : Nat}
def runO (step : σ → α → Option σ) (s : σ) (l : List α) : Option σ := l.foldl (fun s x => s.bind fun a => step a x) (some s)
theorem runO_take (d : α) (hi : i < l.length) : runO step s (l.take (i + 1)) = (runO step s (l.take i)).bind fun a => step a (l.getD i d) := by
  unfold runO; rw [take_dS d hi, List.foldl_append]; rfl
theorem foldO_none : ∀ l : List α, l.foldl (fun (s : Option σ) x => s.bind fun a => step a x) none = none
  | [] => rfl
  | _ :: l => foldO_none l
theorem runO_none (h : runO step s (l.take i) = none) : runO step s l = none := by
  unfold runO at *
  rw [← List.take_append_drop i l, List.foldl_append, h, foldO_none]
end
def inR (w : Str) (i : Int) : Bool := decide (lowW w ≤ i) && decide (i ≤ highW w)
def stepF (fl : List (Str × Str)) (a : Nat) (x : Str × V) : Option Nat := match fl.findIdx? (fun f => decide (f.1 = x.1)) with
  | some i => if a ≤ i ∧ (fl.getD i dF).2 = kindV x.2 then some (i + 1) else none
  | none => none
def stepW (b : Str) (x : Str × Int) : Option Str := if b.cps.toList < x.1.cps.toList ∧ 1 ≤ x.2 then some x.1 else none
abbrev runF (fl : List (Str × Str)) (prs : List (Str × V)) : Option Nat := runO (stepF fl) 0 prs
abbrev runW (ws : List (Str × Int)) : Option Str := runO stepW "" ws
def vecOk (size : Int) (w : Str) (as : List Int) : Bool := decide ((as.length : Int) = size) && as.all (inR w)
def fitB (size : Int) (w : Str) (fl : List (Str × Str)) (nm : Str) (as : List Int) (prs : List (Str × V)) (ws : List (Str × Int)) : Bool := !decide (nm = "") && (vecOk size w as && ((runF fl prs).isSome && (runW ws).isSome))
theorem idx_of {fl : List (Str × Str)} {n : Str} {b : Nat} (nd : (fl.map (·.1)).Nodup) (hb : b < fl.length) (e : (fl.getD b dF).1 = n) : fl.findIdx? (fun f => decide (f.1 = n)) = some b := by
  rw [List.findIdx?_eq_some_iff_getElem]
  refine ⟨hb, ?_, fun j hj => ?_⟩
  · rw [List.getD_eq_getElem?_getD, List.getElem?_eq_getElem hb] at e
    exact decide_eq_true e
  · have ne := List.nodup_iff_pairwise_ne.mp nd
    rw [List.pairwise_iff_getElem] at ne
    have z := ne j b (by simp; omega) (by simpa using hb) hj
    rw [List.getElem_map, List.getElem_map] at z
    rw [List.getD_eq_getElem?_getD, List.getElem?_eq_getElem hb] at e
    intro q
    exact z (Eq.trans (of_decide_eq_true q) e.symm)
theorem idx_at {fl : List (Str × Str)} {n : Str} {b : Nat} (h : fl.findIdx? (fun f => decide (f.1 = n)) = some b) : b < fl.length ∧ (fl.getD b dF).1 = n := by
  rw [List.findIdx?_eq_some_iff_getElem] at h
  obtain ⟨hb, e, _⟩ := h
  refine ⟨hb, ?_⟩
  rw [List.getD_eq_getElem?_getD, List.getElem?_eq_getElem hb]
  exact of_decide_eq_true e
abbrev N_kind_of_value : List Str := ["worth"]
-- kind_of_value(worth): slots 0:worth
def T_kind_of_value (K : PySem.W.Frag) : TS :=
    (tSeq (tIfS (tTru K (tCB (uIsi K) (tCons (tVar 0) (tCons (tC (.ty "bool")) tNil)))) (tRet (tC (.str "flag"))) tNext)
    (tSeq (tIfS (tTru K (tCB (uIsi K) (tCons (tVar 0) (tCons (tC (.ty "str")) tNil)))) (tRet (tC (.str "text"))) tNext)
    (tRet (tC (.str "integer")))))

def sp_kind_of_value (K : PySem.W.Frag) : Sp := fun vs H Q _ => ∃ v, vs = [v] ∧ vSm v ∧ Q (.str (kindV v)) H
theorem kind_of_value_c {K : PySem.W.Frag} {v : V} {H : Hp} {Q : VK} {E : XK} (h : vSm v) (q : Q (.str (kindV v)) H) : sp_kind_of_value K [v] H Q E := ⟨v, rfl, h, q⟩
theorem w_kind_of_value {K : PySem.W.Frag} : Wd (T_kind_of_value K) N_kind_of_value 1 (sp_kind_of_value K) := fun vs H Q E h => by
  obtain ⟨v, rfl, h, q⟩ := h
  refine ⟨rfl, ?_⟩
  show T_kind_of_value K _ [some v] H
  unfold T_kind_of_value
  cases v <;> first | exact h.elim | (walk_at "zx"; exact q)
abbrev N_words_fit : List Str := ["words", "before", "word", "count"]
-- words_fit(words): slots 0:words 1:before 2:word 3:count
def T_words_fit_b1 (K : PySem.W.Frag) : TS :=
    (tSeq (tIfS (tOr (tTest (tOp uLe (tVar 2) (tVar 1))) (tTest (tOp (uLt K) (tVar 3) (tC (.int 1))))) (tRet (tC (.bl false))) tNext)
    (tAsg (tVar 2) (gName 1)))
def T_words_fit (K : PySem.W.Frag) : TS :=
    (tSeq (tAsg (tC (.str "")) (gName 1))
    (tSeq (tFor (iSq K (tVar 0)) (gTup K 2 (gCons (gName 2) (gCons (gName 3) gNil))) (T_words_fit_b1 K))
    (tRet (tC (.bl true)))))

def sp_words_fit (K : PySem.W.Frag) : Sp := fun vs H Q _ => ∃ (p : Addr) (ws : List (Str × Int)), vs = [.ref p] ∧ PairsT K H p (wsV ws) ∧ Q (.bl (runW ws).isSome) H
theorem words_fit_c {K : PySem.W.Frag} {p : Addr} {ws : List (Str × Int)} {H : Hp} {Q : VK} {E : XK} (h : PairsT K H p (wsV ws)) (q : Q (.bl (runW ws).isSome) H) : sp_words_fit K [.ref p] H Q E := ⟨p, ws, rfl, h, q⟩
theorem w_words_fit {K : PySem.W.Frag} : Wd (T_words_fit K) N_words_fit 1 (sp_words_fit K) := fun vs H Q E h => by
  obtain ⟨p, ws, rfl, ⟨ps, ep, rp⟩, q⟩ := h
  have lp := All2.len rp
  rw [List.length_map] at lp
  refine ⟨rfl, ?_⟩
  show T_words_fit K _ [some (.ref p), none, none, none] H
  unfold T_words_fit
  walk_at "zz"
  refine z_forT ep (fun i σ H' => H' = H ∧ ∃ (b : Str) (w2 w3 : Option V), σ = [some (.ref p), some (.str b), w2, w3] ∧ runO stepW "" (ws.take i) = some b) ⟨rfl, "", _, _, rfl, rfl⟩ (fun i σ' H' _ z => by rw [z.1]; exact ep) ?_ ?_
  · rintro i x σ' H' hx ⟨rfl, b, w2, w3, rfl, hb⟩
    obtain ⟨hi, rfl⟩ := map_ref hx
    have hi2 : i < ws.length := by omega
    have e := All2.atD rp 0 (V.non, V.non) (show i < (wsV ws).length by simpa using hi2)
    rw [wsV_at hi2] at e
    have st := runO_take (step := stepW) (s := "") dWI hi2
    rw [hb] at st
    generalize ws.getD i dWI = y at *
    obtain ⟨w, n⟩ := y
    have st : runO stepW "" (ws.take (i + 1)) = stepW b (w, n) := st
    refine z_gTup2 e ?_
    unfold T_words_fit_b1
    walk_at "zz"
    by_cases c1 : b.cps.toList < w.cps.toList
    · rw [decide_eq_true c1]
      walk_at "zx"
      by_cases c2 : n < 1
      · rw [decide_eq_true c2]
        walk_at "zx"
        rw [show stepW b (w, n) = none from if_neg (by rintro ⟨_, z⟩; have z : 1 ≤ n := z; omega)] at st
        have z := runO_none st
        unfold runW at q
        rw [z] at q; exact q
      · rw [decide_eq_false c2]
        walk_at "zx"
        rw [show stepW b (w, n) = some w from if_pos ⟨c1, by show 1 ≤ n; omega⟩] at st
        exact ⟨rfl, w, _, _, rfl, st⟩
    · rw [decide_eq_false c1]
      walk_at "zx"
      rw [show stepW b (w, n) = none from if_neg (fun z => c1 z.1)] at st
      have z := runO_none st
      unfold runW at q
      rw [z] at q; exact q
  · rintro σ' H' ⟨rfl, b, w2, w3, rfl, hb⟩
    rw [List.length_map, lp, List.take_length] at hb
    walk_at "zz"
    unfold runW at q
    rw [hb] at q; exact q
abbrev N_Schema_has_vector : List Str := ["self", "vector", "number"]
-- Schema.has_vector(self, vector): slots 0:self 1:vector 2:number
def T_Schema_has_vector_b1 (K : PySem.W.Frag) (c : CEnv) : TS :=
    (tIfS (tOr (tTest (tOp (uLt K) (tVar 2) (tPr c "Schema" (sp_Schema_least K c) (tVar 0)))) (tTest (tOp uGt (tVar 2) (tPr c "Schema" (sp_Schema_greatest K c) (tVar 0))))) (tRet (tC (.bl false))) tNext)
def T_Schema_has_vector (K : PySem.W.Frag) (c : CEnv) : TS :=
    (tSeq (tIfS (tTest (tOp (uNe K) (tCB (uLen K) (tCons (tVar 1) tNil)) (tFld K (tVar 0) "size"))) (tRet (tC (.bl false))) tNext)
    (tSeq (tFor (iSq K (tVar 1)) (gName 2) (T_Schema_has_vector_b1 K c))
    (tRet (tC (.bl true)))))

def sp_Schema_has_vector (K : PySem.W.Frag) (c : CEnv) : Sp := fun vs H Q _ => ∃ (p v : Addr) (size : Int) (w m : Str) (fl : List (Str × Str)) (as : List Int), vs = [.ref p, .ref v] ∧ SchAt K c H p size w m fl ∧ w ∈ WDT ∧ SqT K H v (as.map V.int) ∧ Q (.bl (vecOk size w as)) H
theorem w_Schema_has_vector {K : PySem.W.Frag} {c : CEnv} : Wd (T_Schema_has_vector K c) N_Schema_has_vector 2 (sp_Schema_has_vector K c) := fun vs H Q E h => by
  obtain ⟨p, v, size, w, m, fl, as, rfl, sch, hw, ev, q⟩ := h
  obtain ⟨tf, ⟨ok, dx, e⟩, _⟩ := id sch
  replace e : H p = some (.ins (c.cls "Schema") dx (schF size w m tf)) := e
  replace ok : ClsOk K c "Schema" ["size", "width", "measure", "fields"] := ok
  refine ⟨rfl, ?_⟩
  show T_Schema_has_vector K c _ [some (.ref p), some (.ref v), none] H
  unfold T_Schema_has_vector
  walk_at "zz"
  try refine z_len (.inr ev) ?_
  walk_at "zz"
  rw [List.length_map]
  by_cases c1 : (as.length : Int) = size
  case neg =>
    rw [decide_eq_false c1]
    walk_at "zx"
    unfold vecOk at q
    rw [decide_eq_false c1] at q
    exact q
  rw [decide_eq_true c1]
  walk_at "zx"
  refine z_forT ev (fun i σ H' => H' = H ∧ (∀ a ∈ as.take i, inR w a = true) ∧ ∃ w2, σ = [some (.ref p), some (.ref v), w2]) ⟨rfl, (fun _ h => nomatch h), _, rfl⟩ (fun i σ' H' _ z => by rw [z.1]; exact ev) ?_ ?_
  · rintro i x σ' H' hx ⟨rfl, ok2, w2, rfl⟩
    obtain ⟨hi, rfl⟩ := map_int hx
    have mi := getD_mem' (0 : Int) hi
    have tk := take_dS (0 : Int) hi
    generalize as.getD i 0 = a at *
    have bad : inR w a = false → vecOk size w as = false := fun z => by
      unfold vecOk
      rw [show as.all (inR w) = false by
        rw [Bool.eq_false_iff]; intro y
        have := List.all_eq_true.mp y a mi
        rw [z] at this; cases this]
      simp
    refine z_gName ?_
    unfold T_Schema_has_vector_b1
    walk_at "zz"
    refine ⟨p, dx, _, rfl, e, Schema_least_c sch hw ?_⟩
    walk_at "zz"
    by_cases c2 : a < lowW w
    · rw [decide_eq_true c2]
      walk_at "zx"
      rw [bad (by unfold inR; rw [decide_eq_false (by omega)]; rfl)] at q
      exact q
    rw [decide_eq_false c2]
    walk_at "zx"
    refine ⟨p, dx, _, rfl, e, Schema_greatest_c sch hw ?_⟩
    walk_at "zz"
    by_cases c3 : highW w < a
    · rw [decide_eq_true c3]
      walk_at "zx"
      rw [bad (by unfold inR; rw [decide_eq_false (show ¬ a ≤ highW w by omega)]; simp)] at q
      exact q
    rw [decide_eq_false c3]
    walk_at "zx"
    refine ⟨rfl, ?_, _, rfl⟩
    rw [tk]
    intro b hb
    rcases List.mem_append.mp hb with h | h
    · exact ok2 b h
    · rw [List.mem_singleton.mp h]; unfold inR; rw [decide_eq_true (by omega), decide_eq_true (show a ≤ highW w by omega)]; rfl
  · rintro σ' H' ⟨rfl, ok2, w2, rfl⟩
    rw [List.length_map, List.take_length] at ok2
    walk_at "zz"
    unfold vecOk at q
    rw [decide_eq_true c1, List.all_eq_true.mpr ok2] at q
    exact q
abbrev N_Schema_has_fields : List Str := ["self", "pairs", "at", "name", "worth"]
-- Schema.has_fields(self, pairs): slots 0:self 1:pairs 2:at 3:name 4:worth
def T_Schema_has_fields_b1 (K : PySem.W.Frag) : TS :=
    (tAsg (tOp (uAdd K) (tVar 2) (tC (.int 1))) (gName 2))
def T_Schema_has_fields_b2 (K : PySem.W.Frag) : TS :=
    (tSeq (tWhile (tAnd (tTest (tOp (uLt K) (tVar 2) (tCB (uLen K) (tCons (tFld K (tVar 0) "fields") tNil)))) (tTest (tOp (uNe K) (tOp (uIx K) (tOp (uIx K) (tFld K (tVar 0) "fields") (tVar 2)) (tC (.int 0))) (tVar 3)))) (T_Schema_has_fields_b1 K))
    (tSeq (tIfS (tOr (tTest (tOp (uEq K) (tVar 2) (tCB (uLen K) (tCons (tFld K (tVar 0) "fields") tNil)))) (tTest (tOp (uNe K) (tOp (uIx K) (tOp (uIx K) (tFld K (tVar 0) "fields") (tVar 2)) (tC (.int 1))) (tCal (sp_kind_of_value K) (tCons (tVar 4) tNil))))) (tRet (tC (.bl false))) tNext)
    (tAsg (tOp (uAdd K) (tVar 2) (tC (.int 1))) (gName 2))))
def T_Schema_has_fields (K : PySem.W.Frag) : TS :=
    (tSeq (tAsg (tC (.int 0)) (gName 2))
    (tSeq (tFor (iSq K (tVar 1)) (gTup K 2 (gCons (gName 3) (gCons (gName 4) gNil))) (T_Schema_has_fields_b2 K))
    (tRet (tC (.bl true)))))

def sp_Schema_has_fields (K : PySem.W.Frag) (c : CEnv) : Sp := fun vs H Q _ => ∃ (p t : Addr) (size : Int) (w m : Str) (fl : List (Str × Str)) (prs : List (Str × V)), vs = [.ref p, .ref t] ∧ SchAt K c H p size w m fl ∧ (fl.map (·.1)).Nodup ∧ fl.length ≤ 1000 ∧ PairsT K H t (flV prs) ∧ (∀ x ∈ prs, vSm x.2) ∧ Q (.bl (runF fl prs).isSome) H
theorem w_Schema_has_fields {K : PySem.W.Frag} {c : CEnv} : Wd (T_Schema_has_fields K) N_Schema_has_fields 2 (sp_Schema_has_fields K c) := fun vs H Q E h => by
  obtain ⟨p, t, size, w, m, fl, prs, rfl, ⟨tf, ⟨ok, dx, e⟩, qs, ef, rf⟩, nd, l1, ⟨ps, ep, rp⟩, vs, q⟩ := h
  replace e : H p = some (.ins (c.cls "Schema") dx (schF size w m tf)) := e
  replace ok : ClsOk K c "Schema" ["size", "width", "measure", "fields"] := ok
  have lp := All2.len rp
  rw [List.length_map] at lp
  have lf := All2.len rf
  have lf2 : (fV fl).length = fl.length := by simp [fV]
  refine ⟨rfl, ?_⟩
  show T_Schema_has_fields K _ [some (.ref p), some (.ref t), none, none, none] H
  unfold T_Schema_has_fields
  walk_at "zz"
  refine z_forT ep (fun i σ H' => H' = H ∧ ∃ (a : Nat) (w3 w4 : Option V), σ = [some (.ref p), some (.ref t), some (.int (a : Int)), w3, w4] ∧ runO (stepF fl) 0 (prs.take i) = some a ∧ a ≤ fl.length) ⟨rfl, 0, _, _, rfl, rfl, Nat.zero_le _⟩ (fun i σ' H' _ z => by rw [z.1]; exact ep) ?_ ?_
  · rintro i x σ' H' hx ⟨rfl, a, w3, w4, rfl, ha, la⟩
    obtain ⟨hi, rfl⟩ := map_ref hx
    have hi2 : i < prs.length := by omega
    have e2 := All2.atD rp 0 (V.non, V.non) (show i < (flV prs).length by simpa using hi2)
    rw [flV_at hi2] at e2
    have st := runO_take (step := stepF fl) (s := 0) dFV hi2
    rw [ha] at st
    have vi := vs _ (getD_mem' dFV hi2)
    generalize prs.getD i dFV = y at *
    obtain ⟨n, v⟩ := y
    have st : runO (stepF fl) 0 (prs.take (i + 1)) = stepF fl a (n, v) := st
    have vi : vSm v := vi
    have bad : stepF fl a (n, v) = none → Q (.bl false) H' := fun z => by
      rw [z] at st
      have z := runO_none st
      unfold runF at q
      rw [z] at q; exact q
    refine z_gTup2 e2 ?_
    unfold T_Schema_has_fields_b2
    walk_at "zz"
    refine z_while (fun k σ H2 => H2 = H' ∧ ∃ b : Nat, σ = [some (.ref p), some (.ref t), some (.int (b : Int)), some (.str n), some v] ∧ a ≤ b ∧ b ≤ fl.length ∧ (∀ j, a ≤ j → j < b → (fl.getD j dF).1 ≠ n) ∧ k = fl.length - b) (fl.length - a) ⟨rfl, a, rfl, Nat.le_refl _, la, (fun j h1 h2 => by omega), rfl⟩ ?_
    rintro k σ H2 ⟨rfl, b, rfl, hab, hb, no, rfl⟩
    walk_at "zz"
    try refine z_len (.inr ef) ?_
    walk_at "zz"
    rw [List.length_map, lf, lf2]
    have after : (b = fl.length ∨ (b < fl.length ∧ (fl.getD b dF).1 = n)) → tSeq (tIfS (tOr (tTest (tOp (uEq K) (tVar 2) (tCB (uLen K) (tCons (tFld K (tVar 0) "fields") tNil)))) (tTest (tOp (uNe K) (tOp (uIx K) (tOp (uIx K) (tFld K (tVar 0) "fields") (tVar 2)) (tC (.int 1))) (tCal (sp_kind_of_value K) (tCons (tVar 4) tNil))))) (tRet (tC (.bl false))) tNext)
        (tAsg (tOp (uAdd K) (tVar 2) (tC (.int 1))) (gName 2)) { nx := fun σ H' => H' = H2 ∧ ∃ (a : Nat) (w3 w4 : Option V), σ = [some (.ref p), some (.ref t), some (.int (a : Int)), w3, w4] ∧ runO (stepF fl) 0 (prs.take (i + 1)) = some a ∧ a ≤ fl.length, rt := Q, bk := tRet (tC (.bl true)) { nx := fun _ H' => Q .non H', rt := Q }, ct := fun σ H' => H' = H2 ∧ ∃ (a : Nat) (w3 w4 : Option V), σ = [some (.ref p), some (.ref t), some (.int (a : Int)), w3, w4] ∧ runO (stepF fl) 0 (prs.take (i + 1)) = some a ∧ a ≤ fl.length } [some (.ref p), some (.ref t), some (.int (b : Int)), some (.str n), some v] H2 := by
      intro hcase
      walk_at "zz"
      try refine z_len (.inr ef) ?_
      walk_at "zz"
      rw [List.length_map, lf, lf2]
      by_cases c1 : b = fl.length
      · rw [decide_eq_true (show (b : Int) = (fl.length : Int) by omega)]
        walk_at "zx"
        refine bad ?_
        unfold stepF
        cases hx : fl.findIdx? (fun f => decide (f.1 = (n, v).1)) with
        | none => rfl
        | some j =>
          obtain ⟨h1, h2⟩ := idx_at hx
          refine if_neg fun z => ?_
          exact no j z.1 (by omega) h2
      · obtain ⟨hb2, en⟩ := hcase.resolve_left c1
        have hx : fl.findIdx? (fun f => decide (f.1 = (n, v).1)) = some b := idx_of nd hb2 en
        rw [decide_eq_false (show ¬ (b : Int) = (fl.length : Int) by omega)]
        walk_at "zx"
        have epb := All2.atD rf 0 (V.non, V.non) (show b < (fV fl).length by omega)
        rw [fV_at hb2] at epb
        replace epb : SqT K H2 (qs.getD b 0) [.str (fl.getD b dF).1, .str (fl.getD b dF).2] := epb
        refine z_ix (.inr ef) (at_ref (by omega) (by omega)) ?_
        rw [Int.toNat_natCast]
        walk_at "zz"
        try refine z_ix (.inr epb) (v := (.str (fl.getD b dF).2)) rfl ?_
        walk_at "zz"
        refine kind_of_value_c vi ?_
        walk_at "zz"
        by_cases c2 : (fl.getD b dF).2 = kindV v
        · rw [decide_eq_true c2]
          walk_at "zx"
          refine ⟨rfl, b + 1, _, _, rfl, ?_, by omega⟩
          rw [st]
          unfold stepF
          rw [hx]
          exact if_pos ⟨hab, c2⟩
        · rw [decide_eq_false c2]
          walk_at "zx"
          refine bad ?_
          unfold stepF
          rw [hx]
          exact if_neg fun z => c2 z.2
    by_cases c1 : b < fl.length
    · rw [decide_eq_true (show (b : Int) < (fl.length : Int) by omega)]
      walk_at "zx"
      have epb := All2.atD rf 0 (V.non, V.non) (show b < (fV fl).length by omega)
      rw [fV_at c1] at epb
      replace epb : SqT K H2 (qs.getD b 0) [.str (fl.getD b dF).1, .str (fl.getD b dF).2] := epb
      refine z_ix (.inr ef) (at_ref (by omega) (by omega)) ?_
      rw [Int.toNat_natCast]
      walk_at "zz"
      try refine z_ix (.inr epb) (v := (.str (fl.getD b dF).1)) rfl ?_
      walk_at "zz"
      by_cases c2 : (fl.getD b dF).1 = n
      · rw [decide_eq_true c2]
        refine z_iteF' (by decide +kernel) ?_
        exact after (.inr ⟨c1, c2⟩)
      · rw [decide_eq_false c2]
        refine z_iteT' (by decide +kernel) ?_
        refine z_turn (D := { nx := fun _ H' => Q .non H', rt := Q }) ?_
        unfold T_Schema_has_fields_b1
        walk_at "zz"
        refine ⟨fl.length - (b + 1), by omega, rfl, b + 1, rfl, by omega, by omega, fun j h1 h2 => ?_, rfl⟩
        by_cases hj : j = b
        · rw [hj]; exact c2
        · exact no j h1 (by omega)
    · rw [decide_eq_false (show ¬ (b : Int) < (fl.length : Int) by omega)]
      refine z_iteF ?_
      refine z_iteF ?_
      exact after (.inl (by omega))
  · rintro σ' H' ⟨rfl, a, w3, w4, rfl, ha, la⟩
    rw [List.length_map, lp, List.take_length] at ha
    walk_at "zz"
    unfold runF at q
    rw [ha] at q; exact q
abbrev N_Schema_contains : List Str := ["self", "record"]
-- Schema.__contains__(self, record): slots 0:self 1:record
def T_Schema_contains (K : PySem.W.Frag) (c : CEnv) : TS :=
    (tSeq (tIfS (tOr (tTest (tOp (uEq K) (tFld K (tVar 1) "name") (tC (.str "")))) (tNot (tTru K (tMt c "Schema" "has_vector" (sp_Schema_has_vector K c) (tVar 0) (tCons (tFld K (tVar 1) "vector") tNil))))) (tRet (tC (.bl false))) tNext)
    (tRet (tAndV (tMt c "Schema" "has_fields" (sp_Schema_has_fields K c) (tVar 0) (tCons (tFld K (tVar 1) "fields") tNil)) (tCal (sp_words_fit K) (tCons (tFld K (tVar 1) "words") tNil)))))

def sp_Schema_contains (K : PySem.W.Frag) (c : CEnv) : Sp := fun vs H Q _ => ∃ (p r : Addr) (x : D4) (nm : Str) (as : List Int) (prs : List (Str × V)) (ws : List (Str × Int)), vs = [.ref p, .ref r] ∧ SchAt K c H p x.1 x.2.1 x.2.2.1 x.2.2.2 ∧ SchGood x.1 x.2.1 x.2.2.1 x.2.2.2 ∧ x.2.2.2.length ≤ 1000 ∧ RecAt K c H r nm as (flV prs) (wsV ws) ∧ (∀ x ∈ prs, vSm x.2) ∧ Q (.bl (fitB x.1 x.2.1 x.2.2.2 nm as prs ws)) H
theorem w_Schema_contains {K : PySem.W.Frag} {c : CEnv} : Wd (T_Schema_contains K c) N_Schema_contains 2 (sp_Schema_contains K c) := fun vs H Q E h => by
  obtain ⟨p, r, ⟨size, w, m, fl⟩, nm, as, prs, ws, rfl, sch, g, l1, ⟨tv, tf, tw, ⟨okr, dr, er⟩, ev, pf, pw⟩, vsm, q⟩ := h
  replace sch : SchAt K c H p size w m fl := sch
  replace g : SchGood size w m fl := g
  replace q : Q (.bl (fitB size w fl nm as prs ws)) H := q
  obtain ⟨tfs, ⟨ok, dx, e⟩, _⟩ := id sch
  replace e : H p = some (.ins (c.cls "Schema") dx (schF size w m tfs)) := e
  replace er : H r = some (.ins (c.cls "Record") dr (recF nm tv tf tw)) := er
  replace okr : ClsOk K c "Record" ["name", "vector", "fields", "words"] := okr
  refine ⟨rfl, ?_⟩
  show T_Schema_contains K c _ [some (.ref p), some (.ref r)] H
  unfold T_Schema_contains
  unfold fitB at q
  walk_at "zz"
  by_cases c1 : nm = ""
  · rw [decide_eq_true c1] at q ⊢
    walk_at "zx"
    exact q
  rw [decide_eq_false c1] at q ⊢
  walk_at "zx"
  refine ⟨p, dx, _, rfl, e, rfl, ?_⟩
  walk_at "zz"
  refine ⟨p, tv, size, w, m, fl, as, rfl, sch, g.wd, ev, ?_⟩
  walk_at "zz"
  cases c2 : vecOk size w as with
  | false =>
    walk_at "zx"
    rw [c2] at q
    exact q
  | true =>
  rw [c2] at q
  walk_at "zx"
  refine ⟨p, dx, _, rfl, e, rfl, ?_⟩
  walk_at "zz"
  refine ⟨p, tf, size, w, m, fl, prs, rfl, sch, g.nd, l1, pf, vsm, ?_⟩
  cases c3 : (runF fl prs).isSome with
  | false =>
    rw [c3] at q
    walk_at "zx"
    exact q
  | true =>
  rw [c3] at q
  walk_at "zx"
  refine words_fit_c pw ?_
  exact q
abbrev N_Schema_check : List Str := ["self", "record"]
-- Schema.check(self, record): slots 0:self 1:record
def T_Schema_check (K : PySem.W.Frag) (c : CEnv) (W : WX) : TS :=
    (tIfS (tTest (tOp (uOutO c "Schema" (sp_Schema_contains K c)) (tVar 1) (tVar 0))) (sRaiseA c "InvalidRecord" (tFld K (tVar 1) "name") W) tNext)

def sp_Schema_check (K : PySem.W.Frag) (c : CEnv) : Sp := fun vs H Q E => ∃ (p r : Addr) (x : D4) (nm : Str) (as : List Int) (prs : List (Str × V)) (ws : List (Str × Int)), vs = [.ref p, .ref r] ∧ SchAt K c H p x.1 x.2.1 x.2.2.1 x.2.2.2 ∧ SchGood x.1 x.2.1 x.2.2.1 x.2.2.2 ∧ x.2.2.2.length ≤ 1000 ∧ RecAt K c H r nm as (flV prs) (wsV ws) ∧ (∀ x ∈ prs, vSm x.2) ∧
  (fitB x.1 x.2.1 x.2.2.2 nm as prs ws = true → Q .non H) ∧ (fitB x.1 x.2.1 x.2.2.2 nm as prs ws = false → E (.ref (c.cls "InvalidRecord")) none H)
theorem w_Schema_check {K : PySem.W.Frag} {c : CEnv} : WdX (T_Schema_check K c) N_Schema_check 2 (sp_Schema_check K c) := fun vs H Q E h => by
  obtain ⟨p, r, x, nm, as, prs, ws, rfl, sch, g, l1, rc, vsm, good, bad⟩ := h
  obtain ⟨tfs, ⟨ok, dx, e⟩, _⟩ := id sch
  obtain ⟨tv, tf, tw, ⟨okr, dr, er⟩, ev, pf, pw⟩ := id rc
  replace er : H r = some (.ins (c.cls "Record") dr (recF nm tv tf tw)) := er
  replace okr : ClsOk K c "Record" ["name", "vector", "fields", "words"] := okr
  refine ⟨rfl, ?_⟩
  show T_Schema_check K c _ _ [some (.ref p), some (.ref r)] H
  unfold T_Schema_check
  walk_at "zz"
  refine ⟨p, dx, _, rfl, e, p, r, x, nm, as, prs, ws, rfl, sch, g, l1, rc, vsm, _, rfl, ?_⟩
  cases c1 : fitB x.1 x.2.1 x.2.2.2 nm as prs ws with
  | true =>
    walk_at "zx"
    exact good c1
  | false =>
    walk_at "zx"
    exact bad c1

theorem findK_take {α : Type} {key : α → Str} {l : List α} {x : Str} {i : Nat} (d : α) (hi : i < l.length) (h : ∀ f ∈ l.take i, key f ≠ x) (e : key (l.getD i d) = x) : l.find? (fun f => decide (key f = x)) = some (l.getD i d) := by
  have z : l = l.take i ++ (l.getD i d :: l.drop (i + 1)) := by
    rw [List.getD_eq_getElem?_getD, List.getElem?_eq_getElem hi]
    show l = l.take i ++ (l[i] :: l.drop (i + 1))
    rw [List.getElem_cons_drop, List.take_append_drop]
  have n : (l.take i).find? (fun f => decide (key f = x)) = none := by
    rw [List.find?_eq_none]
    intro f hf
    simpa using h f hf
  generalize l.getD i d = y at *
  rw [z, List.find?_append, n, List.find?_cons, decide_eq_true e]
  rfl
def vdV (prs : List (Str × V)) (x : Str) : V := match prs.find? (fun f => decide (f.1 = x)) with
  | some f => f.2
  | none => .non
def cnV (ws : List (Str × Int)) (x : Str) : Int := match ws.find? (fun f => decide (f.1 = x)) with
  | some f => f.2
  | none => 0
abbrev N_Record_value : List Str := ["self", "name", "field", "worth"]
-- Record.value(self, name): slots 0:self 1:name 2:field 3:worth
def T_Record_value_b1 (K : PySem.W.Frag) : TS :=
    (tIfS (tTest (tOp (uEq K) (tVar 2) (tVar 1))) (tRet (tVar 3)) tNext)
def T_Record_value (K : PySem.W.Frag) : TS :=
    (tSeq (tFor (iSq K (tFld K (tVar 0) "fields")) (gTup K 2 (gCons (gName 2) (gCons (gName 3) gNil))) (T_Record_value_b1 K))
    (tRet (tC .non)))

def sp_Record_value (K : PySem.W.Frag) (c : CEnv) : Sp := fun vs H Q _ => ∃ (r : Addr) (nm x : Str) (as : List Int) (fl ws : List (V × V)) (l : List (Str × V)), vs = [.ref r, .str x] ∧ RecAt K c H r nm as fl ws ∧ fl = flV l ∧ Q (vdV l x) H
theorem Record_value_c {K : PySem.W.Frag} {c : CEnv} {r : Addr} {nm x : Str} {as : List Int} {prs : List (Str × V)} {ws : List (Str × Int)} {H : Hp} {Q : VK} {E : XK} (h : RecAt K c H r nm as (flV prs) (wsV ws)) (q : Q (vdV prs x) H) : sp_Record_value K c [.ref r, .str x] H Q E := ⟨r, nm, x, as, _, _, prs, rfl, h, rfl, q⟩
theorem w_Record_value {K : PySem.W.Frag} {c : CEnv} : Wd (T_Record_value K) N_Record_value 2 (sp_Record_value K c) := fun vs H Q E h => by
  obtain ⟨r, nm, x, as, fl, ws, l, rfl, ⟨tv, tf, tw, ⟨ok, dx, e⟩, ev, pf, pw⟩, rfl, q⟩ := h
  replace e : H r = some (.ins (c.cls "Record") dx (recF nm tv tf tw)) := e
  replace ok : ClsOk K c "Record" ["name", "vector", "fields", "words"] := ok
  obtain ⟨ps, ef, rf⟩ := pf
  have lf := All2.len rf
  rw [List.length_map] at lf
  refine ⟨rfl, ?_⟩
  show T_Record_value K _ [some (.ref r), some (.str x), none, none] H
  unfold T_Record_value
  walk_at "zz"
  refine z_forT ef (fun i σ H' => H' = H ∧ (∀ f ∈ l.take i, f.1 ≠ x) ∧ ∃ w2 w3, σ = [some (.ref r), some (.str x), w2, w3]) ⟨rfl, (fun _ h => nomatch h), _, _, rfl⟩ (fun i σ' H' _ z => by rw [z.1]; exact ef) ?_ ?_
  · rintro i y σ' H' hy ⟨rfl, no, w2, w3, rfl⟩
    obtain ⟨hi, rfl⟩ := map_ref hy
    have hi2 : i < l.length := by omega
    have ep := All2.atD rf 0 (V.non, V.non) (show i < (flV l).length by simpa using hi2)
    rw [flV_at hi2] at ep
    refine z_gTup2 ep ?_
    unfold T_Record_value_b1
    walk_at "zz"
    refine z_itD (fun h => ?_) (fun h => ?_)
    · walk_at "zz"
      unfold vdV at q
      rw [findK_take (key := fun f => f.1) dFV hi2 no h] at q
      exact q
    · walk_at "zz"
      refine ⟨rfl, ?_, _, _, rfl⟩
      rw [take_dS dFV hi2]
      intro f hf
      rcases List.mem_append.mp hf with hf | hf
      · exact no f hf
      · rw [List.mem_singleton.mp hf]; exact h
  · rintro σ' H' ⟨rfl, no, w2, w3, rfl⟩
    rw [List.length_map, lf, List.take_length] at no
    walk_at "zz"
    unfold vdV at q
    rw [List.find?_eq_none.mpr (fun f hf => by simpa using no f hf)] at q
    exact q
abbrev N_Record_count_of : List Str := ["self", "word", "other", "count"]
-- Record.count_of(self, word): slots 0:self 1:word 2:other 3:count
def T_Record_count_of_b1 (K : PySem.W.Frag) : TS :=
    (tIfS (tTest (tOp (uEq K) (tVar 2) (tVar 1))) (tRet (tVar 3)) tNext)
def T_Record_count_of (K : PySem.W.Frag) : TS :=
    (tSeq (tFor (iSq K (tFld K (tVar 0) "words")) (gTup K 2 (gCons (gName 2) (gCons (gName 3) gNil))) (T_Record_count_of_b1 K))
    (tRet (tC (.int 0))))

def sp_Record_count_of (K : PySem.W.Frag) (c : CEnv) : Sp := fun vs H Q _ => ∃ (r : Addr) (nm x : Str) (as : List Int) (fl ws : List (V × V)) (l : List (Str × Int)), vs = [.ref r, .str x] ∧ RecAt K c H r nm as fl ws ∧ ws = wsV l ∧ Q (.int (cnV l x)) H
theorem Record_count_of_c {K : PySem.W.Frag} {c : CEnv} {r : Addr} {nm x : Str} {as : List Int} {prs : List (Str × V)} {ws : List (Str × Int)} {H : Hp} {Q : VK} {E : XK} (h : RecAt K c H r nm as (flV prs) (wsV ws)) (q : Q (.int (cnV ws x)) H) : sp_Record_count_of K c [.ref r, .str x] H Q E := ⟨r, nm, x, as, _, _, ws, rfl, h, rfl, q⟩
theorem w_Record_count_of {K : PySem.W.Frag} {c : CEnv} : Wd (T_Record_count_of K) N_Record_count_of 2 (sp_Record_count_of K c) := fun vs H Q E h => by
  obtain ⟨r, nm, x, as, fl, ws, l, rfl, ⟨tv, tf, tw, ⟨ok, dx, e⟩, ev, pf, pw⟩, rfl, q⟩ := h
  replace e : H r = some (.ins (c.cls "Record") dx (recF nm tv tf tw)) := e
  replace ok : ClsOk K c "Record" ["name", "vector", "fields", "words"] := ok
  obtain ⟨ps, ef, rf⟩ := pw
  have lf := All2.len rf
  rw [List.length_map] at lf
  refine ⟨rfl, ?_⟩
  show T_Record_count_of K _ [some (.ref r), some (.str x), none, none] H
  unfold T_Record_count_of
  walk_at "zz"
  refine z_forT ef (fun i σ H' => H' = H ∧ (∀ f ∈ l.take i, f.1 ≠ x) ∧ ∃ w2 w3, σ = [some (.ref r), some (.str x), w2, w3]) ⟨rfl, (fun _ h => nomatch h), _, _, rfl⟩ (fun i σ' H' _ z => by rw [z.1]; exact ef) ?_ ?_
  · rintro i y σ' H' hy ⟨rfl, no, w2, w3, rfl⟩
    obtain ⟨hi, rfl⟩ := map_ref hy
    have hi2 : i < l.length := by omega
    have ep := All2.atD rf 0 (V.non, V.non) (show i < (wsV l).length by simpa using hi2)
    rw [wsV_at hi2] at ep
    refine z_gTup2 ep ?_
    unfold T_Record_count_of_b1
    walk_at "zz"
    refine z_itD (fun h => ?_) (fun h => ?_)
    · walk_at "zz"
      unfold cnV at q
      rw [findK_take (key := fun f => f.1) dWI hi2 no h] at q
      exact q
    · walk_at "zz"
      refine ⟨rfl, ?_, _, _, rfl⟩
      rw [take_dS dWI hi2]
      intro f hf
      rcases List.mem_append.mp hf with hf | hf
      · exact no f hf
      · rw [List.mem_singleton.mp hf]; exact h
  · rintro σ' H' ⟨rfl, no, w2, w3, rfl⟩
    rw [List.length_map, lf, List.take_length] at no
    walk_at "zz"
    unfold cnV at q
    rw [List.find?_eq_none.mpr (fun f hf => by simpa using no f hf)] at q
    exact q
abbrev N_law_kind : List Str := ["_law_worth"]
-- _law_kind(_law_worth): slots 0:_law_worth
def T_law_kind (K : PySem.W.Frag) : TS :=
    (tSeq (tIfS (tTru K (tCB (uIsi K) (tCons (tVar 0) (tCons (tC (.ty "bool")) tNil)))) (tRet (tC (.str "flag"))) tNext)
    (tSeq (tIfS (tTru K (tCB (uIsi K) (tCons (tVar 0) (tCons (tC (.ty "str")) tNil)))) (tRet (tC (.str "text"))) tNext)
    (tRet (tC (.str "integer")))))

def sp_law_kind (K : PySem.W.Frag) : Sp := fun vs H Q _ => ∃ v, vs = [v] ∧ vSm v ∧ Q (.str (kindV v)) H
theorem law_kind_c {K : PySem.W.Frag} {v : V} {H : Hp} {Q : VK} {E : XK} (h : vSm v) (q : Q (.str (kindV v)) H) : sp_law_kind K [v] H Q E := ⟨v, rfl, h, q⟩
theorem w_law_kind {K : PySem.W.Frag} : Wd (T_law_kind K) N_law_kind 1 (sp_law_kind K) := fun vs H Q E h => by
  obtain ⟨v, rfl, h, q⟩ := h
  refine ⟨rfl, ?_⟩
  show T_law_kind K _ [some v] H
  unfold T_law_kind
  cases v <;> first | exact h.elim | (walk_at "zx"; exact q)
abbrev N_law_refused : List Str := ["_law_schema_here", "_law_record"]
-- _law_refused(_law_schema_here, _law_record): slots 0:_law_schema_here 1:_law_record
def T_law_refused (K : PySem.W.Frag) (c : CEnv) : TS :=
    (sTryM K c [("InvalidRecord", (tRet (tC (.bl true)))), ("SurenearError", (tRet (tC .non)))] ["InvalidRecord", "InvalidSchema"] (fun W => (tSeq (tIfS (tTest (tOp uIs (tMtX c "Schema" "check" (sp_Schema_check K c) W (tVar 0) (tCons (tVar 1) tNil)) (tC .non))) (tRet (tC (.bl false))) tNext)
    (tRet (tC .non)))) W0)

def sp_law_refused (K : PySem.W.Frag) (c : CEnv) : Sp := fun vs H Q _ => ∃ (p r : Addr) (x : D4) (nm : Str) (as : List Int) (prs : List (Str × V)) (ws : List (Str × Int)), vs = [.ref p, .ref r] ∧ SchAt K c H p x.1 x.2.1 x.2.2.1 x.2.2.2 ∧ SchGood x.1 x.2.1 x.2.2.1 x.2.2.2 ∧ x.2.2.2.length ≤ 1000 ∧ RecAt K c H r nm as (flV prs) (wsV ws) ∧ (∀ x ∈ prs, vSm x.2) ∧
  Q (.bl (!fitB x.1 x.2.1 x.2.2.2 nm as prs ws)) H
theorem w_law_refused {K : PySem.W.Frag} {c : CEnv} : Wd (T_law_refused K c) N_law_refused 2 (sp_law_refused K c) := fun vs H Q E h => by
  obtain ⟨p, r, x, nm, as, prs, ws, rfl, sch, g, l1, rc, vsm, q⟩ := h
  obtain ⟨tfs, ⟨ok, dx, e⟩, _⟩ := id sch
  refine ⟨rfl, ?_⟩
  show T_law_refused K c _ [some (.ref p), some (.ref r)] H
  unfold T_law_refused
  walk_at "zz"
  rename_i hex
  refine ⟨p, dx, _, rfl, e, rfl, ?_⟩
  walk_at "zz"
  refine ⟨p, r, x, nm, as, prs, ws, rfl, sch, g, l1, rc, vsm, fun gd => ?_, fun bd => ?_⟩
  · rw [gd] at q
    walk_at "zy"
    exact q
  · rw [bd] at q
    refine z_caughtM (hex _ (by simp) _ (by simp)) (by decide +kernel) ?_
    walk_at "zz"
    exact q
abbrev N_law_fits : List Str := ["_law_drawn", "_law_name_here", "_law_vector", "_law_pairs_here", "_law_words_here", "_law_size", "_law_width", "_law_measure", "_law_fields_here", "_law_place", "_law_number_here", "_law_names", "_law_field", "_law_kind_here", "_law_last", "_law_worth", "_law_before", "_law_word", "_law_count"]
-- _law_fits(_law_drawn, _law_name_here, _law_vector, _law_pairs_here, _law_words_here): slots 0:_law_drawn 1:_law_name_here 2:_law_vector 3:_law_pairs_here 4:_law_words_here 5:_law_size 6:_law_width 7:_law_measure 8:_law_fields_here 9:_law_place 10:_law_number_here 11:_law_names 12:_law_field 13:_law_kind_here 14:_law_last 15:_law_worth 16:_law_before 17:_law_word 18:_law_count
def T_law_fits_b1 (K : PySem.W.Frag) : TS :=
    (tIfS (tOr (tTest (tOp (uLt K) (tVar 10) (tOp (uIx K) (tLst (tCons (tC (.int 0)) (tCons (tUn uNeg (tC (.int 128))) (tCons (tUn uNeg (tC (.int 32768))) tNil)))) (tVar 9)))) (tTest (tOp uGt (tVar 10) (tOp (uIx K) (tLst (tCons (tC (.int 1)) (tCons (tC (.int 127)) (tCons (tC (.int 32767)) tNil)))) (tVar 9))))) (tRet (tC (.bl false))) tNext)
def T_law_fits_b2 (K : PySem.W.Frag) : TS :=
    (tSeq (tIfS (tOr (tTest (tOp (uNotIn K) (tVar 12) (tVar 11))) (tOr (tTest (tOp uLe (tBM K "list" (rIndex K) (tVar 11) (tCons (tVar 12) tNil)) (tVar 14))) (tTest (tOp (uNe K) (tOp (uIx K) (tOp (uIx K) (tVar 8) (tBM K "list" (rIndex K) (tVar 11) (tCons (tVar 12) tNil))) (tC (.int 1))) (tCal (sp_law_kind K) (tCons (tVar 15) tNil)))))) (tRet (tC (.bl false))) tNext)
    (tAsg (tBM K "list" (rIndex K) (tVar 11) (tCons (tVar 12) tNil)) (gName 14)))
def T_law_fits_b3 (K : PySem.W.Frag) : TS :=
    (tSeq (tIfS (tOr (tTest (tOp uLe (tVar 17) (tVar 16))) (tTest (tOp (uLt K) (tVar 18) (tC (.int 1))))) (tRet (tC (.bl false))) tNext)
    (tAsg (tVar 17) (gName 16)))
def T_law_fits (K : PySem.W.Frag) : TS :=
    (tSeq (tAsg (tVar 0) (gTup K 4 (gCons (gName 5) (gCons (gName 6) (gCons (gName 7) (gCons (gName 8) gNil))))))
    (tSeq (tAsg (tBM K "list" (rIndex K) (tLst (tCons (tC (.str "bit")) (tCons (tC (.str "small")) (tCons (tC (.str "wide")) tNil)))) (tCons (tVar 6) tNil)) (gName 9))
    (tSeq (tIfS (tOr (tTest (tOp (uEq K) (tVar 1) (tC (.str "")))) (tTest (tOp (uNe K) (tCB (uLen K) (tCons (tVar 2) tNil)) (tVar 5)))) (tRet (tC (.bl false))) tNext)
    (tSeq (tFor (iSq K (tVar 2)) (gName 10) (T_law_fits_b1 K))
    (tSeq (tAsg (tLc (iSq K (tVar 8)) (gTup K 2 (gCons (gName 12) (gCons (gName 13) gNil))) tYes (tVar 12) [12, 13]) (gName 11))
    (tSeq (tAsg (tUn uNeg (tC (.int 1))) (gName 14))
    (tSeq (tFor (iSq K (tVar 3)) (gTup K 2 (gCons (gName 12) (gCons (gName 15) gNil))) (T_law_fits_b2 K))
    (tSeq (tAsg (tC (.str "")) (gName 16))
    (tSeq (tFor (iSq K (tVar 4)) (gTup K 2 (gCons (gName 17) (gCons (gName 18) gNil))) (T_law_fits_b3 K))
    (tRet (tC (.bl true))))))))))))

abbrev Th0 (H : Hp) (A P W : Addr) (as : List Int) (prs : List (Str × V)) (ws : List (Str × Int)) : Prop := H A = some (.lst (as.map V.int)) ∧ PrsAt H P prs ∧ WdsAt H W ws
theorem Th0.same {H H' : Hp} {A P W : Addr} {as : List Int} {prs : List (Str × V)} {ws : List (Str × Int)} (s : Same H H') (h : Th0 H A P W as prs ws) : Th0 H' A P W as prs ws := ⟨s _ _ h.1, h.2.1.same s, h.2.2.same s⟩
theorem Th0.exd {H H' : Hp} {A P W : Addr} {as : List Int} {prs : List (Str × V)} {ws : List (Str × Int)} (s : ExD H H') (h : Th0 H A P W as prs ws) : Th0 H' A P W as prs ws := ⟨s.lk h.1 NotSt.ints, h.2.1.exd s, h.2.2.exd s⟩
def sp_law_fits (K : PySem.W.Frag) : Sp := fun vs H Q _ => ∃ (t f A P W : Addr) (x : D4) (nm : Str) (as : List Int) (prs : List (Str × V)) (ws : List (Str × Int)), vs = [.ref t, .str nm, .ref A, .ref P, .ref W] ∧ DrAtF H t f x ∧ SchGood x.1 x.2.1 x.2.2.1 x.2.2.2 ∧ x.2.2.2.length ≤ 1000 ∧ Th0 H A P W as prs ws ∧ (∀ x ∈ prs, vSm x.2) ∧ ∀ H', Same H H' → Q (.bl (fitB x.1 x.2.1 x.2.2.2 nm as prs ws)) H'
theorem law_fits_c {K : PySem.W.Frag} {t f A P W : Addr} {x : D4} {nm : Str} {as : List Int} {prs : List (Str × V)} {ws : List (Str × Int)} {H : Hp} {Q : VK} {E : XK} (h : DrAtF H t f x) (g : SchGood x.1 x.2.1 x.2.2.1 x.2.2.2) (l1 : x.2.2.2.length ≤ 1000) (h2 : Th0 H A P W as prs ws) (hv : ∀ x ∈ prs, vSm x.2) (q : ∀ H', Same H H' → Q (.bl (fitB x.1 x.2.1 x.2.2.2 nm as prs ws)) H') : sp_law_fits K [.ref t, .str nm, .ref A, .ref P, .ref W] H Q E := ⟨t, f, A, P, W, x, nm, as, prs, ws, rfl, h, g, l1, h2, hv, q⟩
theorem names_at {fl : List (Str × Str)} {n : Str} {b : Nat} (nd : (fl.map (·.1)).Nodup) (hb : b < fl.length) (e : (fl.getD b dF).1 = n) : (fl.map (·.1))[b]? = some n ∧ ∀ m, m < b → (fl.map (·.1))[m]? ≠ some n := by
  rw [List.getD_eq_getElem?_getD, List.getElem?_eq_getElem hb] at e
  have e : fl[b].1 = n := e
  have e2 : (fl.map (·.1))[b]? = some n := by rw [List.getElem?_map, List.getElem?_eq_getElem hb, ← e]; rfl
  refine ⟨e2, fun m hm z => ?_⟩
  have ne := List.nodup_iff_pairwise_ne.mp nd
  rw [List.pairwise_iff_getElem] at ne
  obtain ⟨h1, z1⟩ := List.getElem?_eq_some_iff.mp z
  obtain ⟨h2, z2⟩ := List.getElem?_eq_some_iff.mp e2
  exact ne m b h1 h2 hm (z1.trans z2.symm)
theorem w_law_fits {K : PySem.W.Frag} : Wd (T_law_fits K) N_law_fits 5 (sp_law_fits K) := fun vs H Q E h => by
  obtain ⟨t, f, A, P, W, ⟨size, w, m, fl⟩, nm, as, prs, ws, rfl, ⟨et, qs, ef, rf⟩, g, l1, ⟨eA, ⟨ps, eP, rP⟩, us, eW, rW⟩, vsm, q⟩ := h
  replace et : H t = some (.tup [.int size, .str w, .str m, .ref f]) := et
  replace rf : All2 (fun q (x : Str × Str) => H q = some (.tup [.str x.1, .str x.2])) qs fl := rf
  replace g : SchGood size w m fl := g
  replace l1 : fl.length ≤ 1000 := l1
  replace q : ∀ H', Same H H' → Q (.bl (fitB size w fl nm as prs ws)) H' := q
  have lf := All2.len rf
  have lP := All2.len rP
  have lW := All2.len rW
  obtain ⟨j, hj, ej, nj, lo, hi⟩ := wd_ix g.wd
  have nd := g.nd
  refine ⟨rfl, ?_⟩
  show T_law_fits K _ [some (.ref t), some (.str nm), some (.ref A), some (.ref P), some (.ref W), none, none, none, none, none, none, none, none, none, none, none, none, none, none] H
  unfold T_law_fits
  unfold fitB at q
  walk_at "zz"
  refine z_gTup4 (SqT.of et) ?_
  walk_at "zz"
  rename_i c1 hc1
  have s1 : Same H (upd H c1 (.lst [V.str "bit", .str "small", .str "wide"])) := Same.new hc1 (Same.refl H)
  refine z_indexS (ks := WDT) (SqL.of upd_same) ej nj ?_
  generalize upd H c1 (.lst [V.str "bit", .str "small", .str "wide"]) = H1 at *
  walk_at "zz"
  by_cases k1 : nm = ""
  · rw [decide_eq_true k1]
    walk_at "zx"
    have q := q _ s1
    rw [decide_eq_true k1] at q
    exact q
  rw [decide_eq_false k1]
  rw [decide_eq_false k1] at q
  walk_at "zx"
  try refine z_len (.inl (SqL.of (s1 _ _ eA))) ?_
  walk_at "zx"
  rw [List.length_map]
  by_cases k2 : (as.length : Int) = size
  case neg =>
    rw [decide_eq_false k2]
    walk_at "zx"
    have q := q _ s1
    unfold vecOk at q
    rw [decide_eq_false k2] at q
    exact q
  rw [decide_eq_true k2]
  walk_at "zx"
  refine z_forL (SqL.of (s1 _ _ eA)) (fun i σ H' => Same H H' ∧ (∀ a ∈ as.take i, inR w a = true) ∧ ∃ w10, σ = [some (.ref t), some (.str nm), some (.ref A), some (.ref P), some (.ref W), some (.int size), some (.str w), some (.str m), some (.ref f), some (.int (j : Nat)), w10, none, none, none, none, none, none, none, none]) ⟨s1, (fun _ h => nomatch h), _, rfl⟩ (fun i σ' H' _ z => SqL.of (z.1 _ _ eA)) ?_ ?_
  · rintro i x σ' H2 hx ⟨s2, ok2, w10, rfl⟩
    obtain ⟨hi3, rfl⟩ := map_int hx
    have mi := getD_mem' (0 : Int) hi3
    have tk := take_dS (0 : Int) hi3
    generalize as.getD i 0 = a at *
    have bad : inR w a = false → vecOk size w as = false := fun z => by
      unfold vecOk
      rw [show as.all (inR w) = false by
        rw [Bool.eq_false_iff]; intro y
        have := List.all_eq_true.mp y a mi
        rw [z] at this; cases this]
      simp
    refine z_gName ?_
    unfold T_law_fits_b1
    walk_at "zz"
    rename_i c3 hc3
    have s3 : Same H (upd H2 c3 (.lst [.int 0, .int (-128), .int (-32768)])) := Same.new hc3 s2
    refine z_ix (.inl (SqL.of (xs := (([0, -128, -32768] : List Int).map V.int)) upd_same)) (at_intj (xs := [0, -128, -32768]) lo) ?_
    generalize upd H2 c3 (.lst [.int 0, .int (-128), .int (-32768)]) = H3 at *
    walk_at "zz"
    by_cases c2 : a < lowW w
    · rw [decide_eq_true c2]
      walk_at "zx"
      have q := q _ s3
      rw [bad (by unfold inR; rw [decide_eq_false (by omega)]; rfl)] at q
      exact q
    rw [decide_eq_false c2]
    walk_at "zx"
    rename_i c4 hc4
    have s4 : Same H (upd H3 c4 (.lst [.int 1, .int 127, .int 32767])) := Same.new hc4 s3
    refine z_ix (.inl (SqL.of (xs := (([1, 127, 32767] : List Int).map V.int)) upd_same)) (at_intj (xs := [1, 127, 32767]) hi) ?_
    generalize upd H3 c4 (.lst [.int 1, .int 127, .int 32767]) = H4 at *
    walk_at "zz"
    by_cases c5 : highW w < a
    · rw [decide_eq_true c5]
      walk_at "zx"
      have q := q _ s4
      rw [bad (by unfold inR; rw [decide_eq_false (show ¬ a ≤ highW w by omega)]; simp)] at q
      exact q
    rw [decide_eq_false c5]
    walk_at "zx"
    refine ⟨s4, ?_, _, rfl⟩
    rw [tk]
    intro b hb
    rcases List.mem_append.mp hb with h | h
    · exact ok2 b h
    · rw [List.mem_singleton.mp h]; unfold inR; rw [decide_eq_true (by omega), decide_eq_true (show a ≤ highW w by omega)]; rfl
  rintro σ' H2 ⟨s2, ok2, w10, rfl⟩
  rw [List.length_map, List.take_length] at ok2
  have vok : vecOk size w as = true := by unfold vecOk; rw [decide_eq_true k2, List.all_eq_true.mpr ok2]; rfl
  rw [vok] at q
  clear lo hi ej nj s1 ok2 eA
  walk_at "zz"
  refine z_lcl (SqL.of (s2 _ _ ef)) (fun C i H' => Same H2 H' ∧ H' C = some (.lst (((fl.map (·.1)).take i).map V.str))) (fun C hC => ⟨Same.new hC (Same.refl H2), upd_same⟩) (fun C i H' _ _ z => SqL.of (z.1 _ _ (s2 _ _ ef))) ?_ ?_
  · rintro C i x H' hC hx ⟨s, eC⟩
    obtain ⟨hi, rfl⟩ := map_ref hx
    have hi2 : i < fl.length := by omega
    have ep := s _ _ (s2 _ _ (All2.atD rf 0 dF hi2))
    refine z_gTup2 (SqT.of ep) ?_
    refine ⟨rfl, ?_⟩
    walk_at "zz"
    refine z_accum eC (by rw [List.length_map, List.length_take, List.length_map]; omega) ?_
    refine ⟨Same.put hC s, ?_⟩
    have e1 : (fl.map (·.1)).getD i ("" : Str) = (fl.getD i dF).1 := by
      rw [List.getD_eq_getElem?_getD, List.getElem?_map, List.getD_eq_getElem?_getD, List.getElem?_eq_getElem hi2]; rfl
    rw [upd_same, take_dS ("" : Str) (by simpa using hi2), e1, List.map_append]; rfl
  rintro C H3 hC ⟨s23, eC⟩
  rw [List.length_map, lf, List.take_of_length_le (by simp)] at eC
  have s3 := s2.trans s23
  clear s2 s23 hC
  walk_at "zz"
  refine z_forL (SqL.of (s3 _ _ eP)) (fun i σ H' => H' = H3 ∧ ∃ (a : Nat) (z : Int) (w12 w15 : Option V), σ = [some (.ref t), some (.str nm), some (.ref A), some (.ref P), some (.ref W), some (.int size), some (.str w), some (.str m), some (.ref f), some (.int (j : Nat)), w10, some (.ref C), w12, none, some (.int z), w15, none, none, none] ∧ z = (a : Int) - 1 ∧ runO (stepF fl) 0 (prs.take i) = some a)
    ⟨rfl, 0, _, _, _, rfl, by decide, rfl⟩ (fun i σ' H' _ z => by rw [z.1]; exact SqL.of (s3 _ _ eP)) ?_ ?_
  · rintro i x σ' H4 hx ⟨rfl, a, z, w12, w15, rfl, hz, ha⟩
    obtain ⟨hi, rfl⟩ := map_ref hx
    have hi2 : i < prs.length := by omega
    have e2 := s3 _ _ (All2.atD rP 0 dFV hi2)
    have st := runO_take (step := stepF fl) (s := 0) dFV hi2
    rw [ha] at st
    have vi := vsm _ (getD_mem' dFV hi2)
    generalize prs.getD i dFV = y at *
    obtain ⟨n, v⟩ := y
    have st : runO (stepF fl) 0 (prs.take (i + 1)) = stepF fl a (n, v) := st
    have vi : vSm v := vi
    have bad : stepF fl a (n, v) = none → Q (.bl false) H4 := fun z => by
      rw [z] at st
      have z := runO_none st
      have q := q _ s3
      unfold runF at q
      rw [z] at q; exact q
    refine z_gTup2 (SqT.of e2) ?_
    unfold T_law_fits_b2
    walk_at "zz"
    refine z_notIn (.inl (SqL.of eC)) rfl (flat_strs _) ?_
    rw [inV_str]
    cases hx : fl.findIdx? (fun f => decide (f.1 = (n, v).1)) with
    | none =>
      rw [List.findIdx?_eq_none_iff] at hx
      have nm2 : n ∉ fl.map (·.1) := fun hm => by
        obtain ⟨y, hy, e⟩ := List.mem_map.mp hm
        have := hx y hy
        rw [decide_eq_false_iff_not] at this
        exact this e
      rw [decide_eq_false nm2]
      walk_at "zx"
      refine bad ?_
      unfold stepF
      rw [List.findIdx?_eq_none_iff.mpr hx]
    | some b =>
      obtain ⟨hb, eb⟩ := idx_at hx
      replace eb : (fl.getD b dF).1 = n := eb
      have mn : n ∈ fl.map (·.1) := List.mem_map.mpr ⟨_, getD_mem' dF hb, eb⟩
      obtain ⟨n1, n2⟩ := names_at nd hb eb
      rw [decide_eq_true mn]
      walk_at "zx"
      refine z_indexS (SqL.of eC) n1 n2 ?_
      walk_at "zz"
      by_cases c1 : a ≤ b
      case neg =>
        rw [decide_eq_true (show (b : Int) ≤ z by omega)]
        walk_at "zx"
        refine bad ?_
        unfold stepF
        rw [hx]
        exact if_neg fun z => c1 z.1
      rw [decide_eq_false (show ¬ (b : Int) ≤ z by omega)]
      walk_at "zx"
      refine z_indexS (SqL.of eC) n1 n2 ?_
      refine z_ix (.inl (SqL.of (s3 _ _ ef))) (at_ref (by omega) (by omega)) ?_
      rw [Int.toNat_natCast]
      have ep := s3 _ _ (All2.atD rf 0 dF hb)
      walk_at "zz"
      refine law_kind_c vi ?_
      walk_at "zz"
      by_cases c2 : (fl.getD b dF).2 = kindV v
      case neg =>
        rw [decide_eq_false c2]
        walk_at "zx"
        refine bad ?_
        unfold stepF
        rw [hx]
        exact if_neg fun z => c2 z.2
      rw [decide_eq_true c2]
      walk_at "zx"
      refine z_indexS (SqL.of eC) n1 n2 ?_
      refine ⟨rfl, b + 1, _, _, _, rfl, by omega, ?_⟩
      rw [st]
      unfold stepF
      rw [hx]
      exact if_pos ⟨c1, c2⟩
  rintro σ' H4 ⟨rfl, a, z, w12, w15, rfl, hz, ha⟩
  rw [List.length_map, lP, List.take_length] at ha
  have q := q _ s3
  unfold runF at q
  rw [ha] at q
  clear hz ha
  walk_at "zz"
  refine z_forL (SqL.of (s3 _ _ eW)) (fun i σ H' => H' = H4 ∧ ∃ (b : Str) (w17 w18 : Option V), σ = [some (.ref t), some (.str nm), some (.ref A), some (.ref P), some (.ref W), some (.int size), some (.str w), some (.str m), some (.ref f), some (.int (j : Nat)), w10, some (.ref C), w12, none, some (.int z), w15, some (.str b), w17, w18] ∧ runO stepW "" (ws.take i) = some b) ⟨rfl, "", _, _, rfl, rfl⟩ (fun i σ' H' _ z => by rw [z.1]; exact SqL.of (s3 _ _ eW)) ?_ ?_
  · rintro i x σ' H' hx ⟨rfl, b, w17, w18, rfl, hb⟩
    obtain ⟨hi, rfl⟩ := map_ref hx
    have hi2 : i < ws.length := by omega
    have e := s3 _ _ (All2.atD rW 0 dWI hi2)
    have st := runO_take (step := stepW) (s := "") dWI hi2
    rw [hb] at st
    generalize ws.getD i dWI = y at *
    obtain ⟨v, n⟩ := y
    have st : runO stepW "" (ws.take (i + 1)) = stepW b (v, n) := st
    refine z_gTup2 (SqT.of e) ?_
    unfold T_law_fits_b3
    walk_at "zz"
    have bad : stepW b (v, n) = none → Q (.bl false) H' := fun z => by
      rw [z] at st
      have z := runO_none st
      unfold runW at q
      rw [z] at q; exact q
    by_cases c1 : b.cps.toList < v.cps.toList
    · rw [decide_eq_true c1]
      walk_at "zx"
      by_cases c2 : n < 1
      · rw [decide_eq_true c2]
        walk_at "zx"
        exact bad (if_neg (by rintro ⟨_, z⟩; have z : 1 ≤ n := z; omega))
      · rw [decide_eq_false c2]
        walk_at "zx"
        rw [show stepW b (v, n) = some v from if_pos ⟨c1, by show 1 ≤ n; omega⟩] at st
        exact ⟨rfl, v, _, _, rfl, st⟩
    · rw [decide_eq_false c1]
      walk_at "zx"
      exact bad (if_neg (fun z => c1 z.1))
  · rintro σ' H' ⟨rfl, b, w17, w18, rfl, hb⟩
    rw [List.length_map, lW, List.take_length] at hb
    walk_at "zz"
    unfold runW at q
    rw [hb] at q; exact q

def FN5 : List Str := ["a", "b", "note", "_x", "zz"]
def WN4 : List Str := ["ant", "cow", "zebra", "x"]
theorem str_el {ks : List Str} {i : Nat} {y : V} (hy : (ks.map V.str)[i]? = some y) : ∃ x, y = .str x := by
  rw [List.getElem?_map] at hy
  cases hh : ks[i]? with
  | none => rw [hh] at hy; cases hy
  | some x => rw [hh] at hy; exact ⟨x, (Option.some.inj hy).symm⟩
theorem vdV_step {prs : List (Str × V)} {x : Str} {i : Nat} (vs : ∀ f ∈ prs, vSm f.2) (hi : i < prs.length) : vdV (prs.take (i + 1)) x = if (prs.getD i dFV).1 = x ∧ vdV (prs.take i) x = .non then (prs.getD i dFV).2 else vdV (prs.take i) x := by
  unfold vdV
  rw [take_dS dFV hi, List.find?_append]
  cases e : (prs.take i).find? (fun f => decide (f.1 = x)) with
  | none =>
    generalize prs.getD i dFV = y at *
    show (match ([y].find? (fun f => decide (f.1 = x))) with | some f => f.2 | none => V.non) = _
    by_cases c : y.1 = x
    · rw [if_pos ⟨c, rfl⟩, List.find?_cons, decide_eq_true c]
    · rw [if_neg (fun z => c z.1), List.find?_cons, decide_eq_false c]; rfl
  | some f =>
    have mf : f ∈ prs := List.mem_of_mem_take (List.mem_of_find?_eq_some e)
    have vf := vs f mf
    show f.2 = _
    rw [if_neg]
    rintro ⟨_, z⟩
    have z : f.2 = V.non := z
    rw [z] at vf; exact vf
theorem vdV_kind {prs : List (Str × V)} {x : Str} (vs : ∀ f ∈ prs, vSm f.2) : vdV prs x = .non ∨ vSm (vdV prs x) := by
  unfold vdV
  cases e : prs.find? (fun f => decide (f.1 = x)) with
  | none => exact .inl rfl
  | some f => exact .inr (vs f (List.mem_of_find?_eq_some e))
theorem cnV_head {ws : List (Str × Int)} {x : Str} : ((ws.filter (fun f => decide (f.1 = x))).map (·.2) ++ [0])[0]? = some (cnV ws x) := by
  unfold cnV
  induction ws with
  | nil => rfl
  | cons y ws ih =>
    by_cases c : y.1 = x
    · rw [List.filter_cons_of_pos (by simpa using c), List.find?_cons, decide_eq_true c]; rfl
    · rw [List.filter_cons_of_neg (by simpa using c), List.find?_cons, decide_eq_false c]; exact ih
theorem z_isnb {K : PySem.W.Frag} {H : Hp} {Q : VK} (k : Q (.bl false) H) : uIsi K [.non, .ty "bool"] H Q := ⟨_, _, false, .ty _, .base .non, rfl, k⟩
def isB : V → Bool
  | .bl _ => true
  | _ => false
theorem z_isVb {K : PySem.W.Frag} {v : V} {H : Hp} {Q : VK} (h : v = .non ∨ vSm v) (k : Q (.bl (isB v)) H) : uIsi K [v, .ty "bool"] H Q := by
  rcases h with rfl | h
  · exact z_isnb k
  · cases v <;> first | exact h.elim | exact z_isbb k | exact z_isib k | exact z_issb k
theorem vSm_flat {v : V} (h : v = .non ∨ vSm v) : flatV v = true := by
  rcases h with rfl | h
  · rfl
  · cases v <;> first | exact h.elim | rfl
abbrev N_law_tells : List Str := ["_law_record", "_law_thing", "_law_name_here", "_law_vector", "_law_pairs_here", "_law_words_here", "_law_field", "_law_due", "_law_other", "_law_worth", "_law_actual", "_law_word", "_law_counts", "_law_count"]
-- _law_tells(_law_record, _law_thing): slots 0:_law_record 1:_law_thing 2:_law_name_here 3:_law_vector 4:_law_pairs_here 5:_law_words_here 6:_law_field 7:_law_due 8:_law_other 9:_law_worth 10:_law_actual 11:_law_word 12:_law_counts 13:_law_count
def T_law_tells_b1 (K : PySem.W.Frag) : TS :=
    (tIfS (tAnd (tTest (tOp (uEq K) (tVar 8) (tVar 6))) (tTest (tOp uIs (tVar 7) (tC .non)))) (tAsg (tVar 9) (gName 7)) tNext)
def T_law_tells_b2 (K : PySem.W.Frag) (c : CEnv) : TS :=
    (tSeq (tAsg (tC .non) (gName 7))
    (tSeq (tFor (iSq K (tVar 4)) (gTup K 2 (gCons (gName 8) (gCons (gName 9) gNil))) (T_law_tells_b1 K))
    (tSeq (tAsg (tMt c "Record" "value" (sp_Record_value K c) (tVar 0) (tCons (tVar 6) tNil)) (gName 10))
    (tIfS (tOr (tTest (tOp (uNe K) (tVar 10) (tVar 7))) (tTest (tOp (uNe K) (tCB (uIsi K) (tCons (tVar 10) (tCons (tC (.ty "bool")) tNil))) (tCB (uIsi K) (tCons (tVar 7) (tCons (tC (.ty "bool")) tNil)))))) (tRet (tC (.bl false))) tNext))))
def T_law_tells_b3 (K : PySem.W.Frag) (c : CEnv) : TS :=
    (tSeq (tAsg (tLc (iSq K (tVar 5)) (gTup K 2 (gCons (gName 8) (gCons (gName 13) gNil))) (tTest (tOp (uEq K) (tVar 8) (tVar 11))) (tVar 13) [8, 13]) (gName 12))
    (tIfS (tTest (tOp (uNe K) (tMt c "Record" "count_of" (sp_Record_count_of K c) (tVar 0) (tCons (tVar 11) tNil)) (tOp (uIx K) (tOp (uAdd K) (tVar 12) (tLst (tCons (tC (.int 0)) tNil))) (tC (.int 0))))) (tRet (tC (.bl false))) tNext))
def T_law_tells (K : PySem.W.Frag) (c : CEnv) : TS :=
    (tSeq (tAsg (tVar 1) (gTup K 4 (gCons (gName 2) (gCons (gName 3) (gCons (gName 4) (gCons (gName 5) gNil))))))
    (tSeq (tIfS (tOr (tTest (tOp (uNe K) (tFld K (tVar 0) "name") (tVar 2))) (tOr (tTest (tOp (uNe K) (tFld K (tVar 0) "vector") (tCB (uTuple K) (tCons (tVar 3) tNil)))) (tTest (tOp (uNe K) (tFld K (tVar 0) "words") (tCB (uTuple K) (tCons (tVar 5) tNil)))))) (tRet (tC (.bl false))) tNext)
    (tSeq (tFor (iSq K (tLst (tCons (tC (.str "a")) (tCons (tC (.str "b")) (tCons (tC (.str "note")) (tCons (tC (.str "_x")) (tCons (tC (.str "zz")) tNil))))))) (gName 6) (T_law_tells_b2 K c))
    (tSeq (tFor (iSq K (tLst (tCons (tC (.str "ant")) (tCons (tC (.str "cow")) (tCons (tC (.str "zebra")) (tCons (tC (.str "x")) tNil)))))) (gName 11) (T_law_tells_b3 K c))
    (tRet (tC (.bl true)))))))

def sp_law_tells (K : PySem.W.Frag) (c : CEnv) : Sp := fun vs H Q _ => ∃ (r t A P W : Addr) (nm : Str) (as : List Int) (prs : List (Str × V)) (ws : List (Str × Int)), vs = [.ref r, .ref t] ∧ RecAt K c H r nm as (flV prs) (wsV ws) ∧ H t = some (.tup [.str nm, .ref A, .ref P, .ref W]) ∧ Th0 H A P W as prs ws ∧ (∀ x ∈ prs, vSm x.2) ∧ ws.length ≤ 1000 ∧ ∀ H', Same H H' → Q (.bl true) H'
theorem law_tells_c {K : PySem.W.Frag} {c : CEnv} {r t A P W : Addr} {nm : Str} {as : List Int} {prs : List (Str × V)} {ws : List (Str × Int)} {H : Hp} {Q : VK} {E : XK} (h : RecAt K c H r nm as (flV prs) (wsV ws)) (et : H t = some (.tup [.str nm, .ref A, .ref P, .ref W])) (th : Th0 H A P W as prs ws) (vs : ∀ x ∈ prs, vSm x.2) (lw : ws.length ≤ 1000) (q : ∀ H', Same H H' → Q (.bl true) H') : sp_law_tells K c [.ref r, .ref t] H Q E := ⟨r, t, A, P, W, nm, as, prs, ws, rfl, h, et, th, vs, lw, q⟩
theorem wds_pairs {K : PySem.W.Frag} {H : Hp} {ps : List Addr} {ws : List (Str × Int)} (r : All2 (fun q (x : Str × Int) => H q = some (.tup [.str x.1, .int x.2])) ps ws) : All2 (PairAt K H) ps (wsV ws) := by
  induction r with
  | nil => exact .nil
  | cons h t ih => exact .cons (SqT.of h) ih
/-- two rows of the same pairs -/
theorem prs_same {K : PySem.W.Frag} {H : Hp} {l : List (V × V)} (fl : ∀ x ∈ l, flatV x.1 = true ∧ flatV x.2 = true) : ∀ {ps qs : List Addr}, All2 (PairAt K H) ps l → All2 (PairAt K H) qs l → ∀ (i : Nat) (x y : V), (ps.map V.ref)[i]? = some x → (qs.map V.ref)[i]? = some y → EqB K H 1 x y true := by
  intro ps qs r1 r2 i x y e1 e2
  obtain ⟨h1, rfl⟩ := map_ref e1
  obtain ⟨h2, rfl⟩ := map_ref e2
  have n1 := All2.len r1
  have hi : i < l.length := by omega
  have a1 := All2.atD r1 0 (V.non, V.non) hi
  have a2 := All2.atD r2 0 (V.non, V.non) hi
  have f := fl _ (getD_mem' (V.non, V.non) hi)
  generalize l.getD i (V.non, V.non) = y at *
  refine EqB.sq (.inl ⟨a1, a2⟩) rfl fun j u v z1 z2 => ?_
  rw [z1] at z2; cases z2
  match j with
  | 0 => cases z1; exact EqB.self (.inl f.1)
  | 1 => cases z1; exact EqB.self (.inl f.2)
  | j + 2 => cases z1
theorem w_law_tells {K : PySem.W.Frag} {c : CEnv} : Wd (T_law_tells K c) N_law_tells 2 (sp_law_tells K c) := fun vs H Q E h => by
  obtain ⟨r, t, A, P, W, nm, as, prs, ws, rfl, rc, et, ⟨eA, ⟨ps, eP, rP⟩, us, eW, rW⟩, vsm, lw, q⟩ := h
  obtain ⟨tv, tf, tw, ⟨ok, dx, e⟩, ev, pf, ⟨tus, etw, rtw⟩⟩ := id rc
  replace e : H r = some (.ins (c.cls "Record") dx (recF nm tv tf tw)) := e
  replace ok : ClsOk K c "Record" ["name", "vector", "fields", "words"] := ok
  have lP := All2.len rP
  have lW := All2.len rW
  have ltw := All2.len rtw
  refine ⟨rfl, ?_⟩
  show T_law_tells K c _ [some (.ref r), some (.ref t), none, none, none, none, none, none, none, none, none, none, none, none] H
  unfold T_law_tells
  walk_at "zz"
  refine z_gTup4 (SqT.of et) ?_
  walk_at "zy"
  refine z_tupleL (SqL.of eA) fun t1 ht1 => ?_
  have s1 : Same H (upd H t1 (.tup (as.map V.int))) := Same.new ht1 (Same.refl H)
  have e1 : upd H t1 (.tup (as.map V.int)) t1 = some (.tup (as.map V.int)) := upd_same
  generalize upd H t1 (.tup (as.map V.int)) = H1 at *
  refine z_neSame (n := 0) (by decide) (.inl ⟨Same.sqT s1 ev, SqT.of e1⟩) rfl (fun i x y z1 z2 => by rw [z1] at z2; cases z2; obtain ⟨_, rfl⟩ := map_int z1; exact EqB.self (.inl rfl)) ?_
  clear e1 ht1
  have e1 := s1 _ _ e
  walk_at "zx"
  refine z_tupleL (SqL.of (s1 _ _ eW)) fun t2 ht2 => ?_
  have s2 : Same H (upd H1 t2 (.tup (us.map V.ref))) := Same.new ht2 s1
  have e2 : upd H1 t2 (.tup (us.map V.ref)) t2 = some (.tup (us.map V.ref)) := upd_same
  generalize upd H1 t2 (.tup (us.map V.ref)) = H2 at *
  refine z_neSame (n := 1) (by decide) (.inl ⟨Same.sqT s2 etw, SqT.of e2⟩) (by rw [List.length_map, List.length_map, ltw, lW]; simp) (prs_same (l := wsV ws) (fun x hx => by obtain ⟨y, _, rfl⟩ := List.mem_map.mp hx; exact ⟨rfl, rfl⟩) (All2.imp (fun _ _ h => Same.sqT s2 h) rtw) (All2.imp (fun _ _ h => Same.sqT s2 h) (wds_pairs rW))) ?_
  clear e1 e2 ht2 s1
  walk_at "zx"
  rename_i c1 hc1
  have s3 : Same H (upd H2 c1 (.lst (FN5.map V.str))) := Same.new hc1 s2
  have e3 : upd H2 c1 (.lst (FN5.map V.str)) c1 = some (.lst (FN5.map V.str)) := upd_same
  show zForS _ _ _ _ _ _ (upd H2 c1 (.lst (FN5.map V.str)))
  generalize upd H2 c1 (.lst (FN5.map V.str)) = H3 at *
  clear s2 hc1
  refine z_forL (SqL.of e3) (fun i σ H' => H' = H3 ∧ ∃ (w6 w7 w8 w9 w10 : Option V), σ = [some (.ref r), some (.ref t), some (.str nm), some (.ref A), some (.ref P), some (.ref W), w6, w7, w8, w9, w10, none, none, none]) ⟨rfl, _, _, _, _, _, rfl⟩ (fun i σ' H' _ z => by rw [z.1]; exact SqL.of e3) ?_ ?_
  · rintro i y σ' H' hy ⟨rfl, w6, w7, w8, w9, w10, rfl⟩
    obtain ⟨x, rfl⟩ := str_el hy
    refine z_gName ?_
    unfold T_law_tells_b2
    walk_at "zz"
    refine z_forL (SqL.of (s3 _ _ eP)) (fun i σ H2 => H2 = H' ∧ ∃ (w8 w9 : Option V), σ = [some (.ref r), some (.ref t), some (.str nm), some (.ref A), some (.ref P), some (.ref W), some (.str x), some (vdV (prs.take i) x), w8, w9, w10, none, none, none]) ⟨rfl, _, _, rfl⟩ (fun i σ' H2 _ z => by rw [z.1]; exact SqL.of (s3 _ _ eP)) ?_ ?_
    · rintro k y σ' H2 hy ⟨rfl, w8, w9, rfl⟩
      obtain ⟨hk, rfl⟩ := map_ref hy
      have hk2 : k < prs.length := by omega
      have ep := s3 _ _ (All2.atD rP 0 dFV hk2)
      rw [vdV_step vsm hk2]
      refine z_gTup2 (SqT.of ep) ?_
      generalize prs.getD k dFV = y at *
      generalize hnv : (if y.1 = x ∧ vdV (prs.take k) x = .non then y.2 else vdV (prs.take k) x) = nv
      unfold T_law_tells_b1
      walk_at "zz"
      by_cases h1 : y.1 = x
      · rw [decide_eq_true h1]
        walk_at "zx"
        by_cases h2 : vdV (prs.take k) x = .non
        · rw [if_pos ⟨h1, h2⟩] at hnv
          subst hnv
          rw [decide_eq_true h2]
          walk_at "zx"
          exact ⟨rfl, _, _, rfl⟩
        · rw [if_neg (fun z => h2 z.2)] at hnv
          subst hnv
          rw [decide_eq_false h2]
          walk_at "zx"
          exact ⟨rfl, _, _, rfl⟩
      · rw [if_neg (fun z => h1 z.1)] at hnv
        subst hnv
        rw [decide_eq_false h1]
        walk_at "zx"
        exact ⟨rfl, _, _, rfl⟩
    · rintro σ' H2 ⟨rfl, w8, w9, rfl⟩
      rw [List.length_map, lP, List.take_length]
      walk_at "zz"
      refine ⟨r, dx, _, rfl, s3 _ _ e, rfl, ?_⟩
      walk_at "zz"
      refine Record_value_c (rc.same s3) ?_
      walk_at "zz"
      have vk := vdV_kind (x := x) vsm
      refine z_neSelf (vSm_flat vk) ?_
      walk_at "zx"
      refine z_isVb vk ?_
      walk_at "zx"
      refine z_isVb vk ?_
      walk_at "zy"
      exact ⟨rfl, _, _, _, _, _, rfl⟩
  rintro σ' H' ⟨rfl, w6, w7, w8, w9, w10, rfl⟩
  walk_at "zz"
  rename_i c2 hc2
  have s4 : Same H (upd H' c2 (.lst (WN4.map V.str))) := Same.new hc2 s3
  have e4 : upd H' c2 (.lst (WN4.map V.str)) c2 = some (.lst (WN4.map V.str)) := upd_same
  show zForS _ _ _ _ _ _ (upd H' c2 (.lst (WN4.map V.str)))
  generalize upd H' c2 (.lst (WN4.map V.str)) = H4 at *
  clear e3 hc2
  refine z_forL (SqL.of e4) (fun i σ H' => Same H4 H' ∧ ∃ (w8 w11 w12 : Option V), σ = [some (.ref r), some (.ref t), some (.str nm), some (.ref A), some (.ref P), some (.ref W), w6, w7, w8, w9, w10, w11, w12, none]) ⟨Same.refl H4, _, _, _, rfl⟩ (fun i σ' H' _ z => SqL.of (z.1 _ _ e4)) ?_ ?_
  · rintro i y σ' H5 hy ⟨s5, w8', w11, w12, rfl⟩
    obtain ⟨x, rfl⟩ := str_el hy
    have s05 := s4.trans s5
    refine z_gName ?_
    unfold T_law_tells_b3
    walk_at "zz"
    refine z_lcl (SqL.of (s05 _ _ eW)) (fun C i H' => Same H5 H' ∧ H' C = some (.lst ((((ws.take i).filter (fun f => decide (f.1 = x))).map (·.2)).map V.int))) (fun C hC => ⟨Same.new hC (Same.refl H5), upd_same⟩) (fun C i H' _ _ z => SqL.of (z.1 _ _ (s05 _ _ eW))) ?_ ?_
    · rintro C k z H' hC hz ⟨s, eC⟩
      obtain ⟨hk, rfl⟩ := map_ref hz
      have hk2 : k < ws.length := by omega
      have ep := s _ _ (s05 _ _ (All2.atD rW 0 dWI hk2))
      have tk := take_dS dWI hk2
      have ll : ((ws.take k).filter (fun f => decide (f.1 = x))).length ≤ 1000 := Nat.le_trans (List.length_filter_le _ _) (by rw [List.length_take]; omega)
      generalize ws.getD k dWI = y at *
      refine z_gTup2 (SqT.of ep) ?_
      refine ⟨rfl, ?_⟩
      walk_at "zz"
      refine z_itD (fun h => ?_) (fun h => ?_)
      · walk_at "zz"
        refine z_accum eC (by rw [List.length_map, List.length_map]; omega) ?_
        refine ⟨Same.put hC s, ?_⟩
        rw [upd_same, tk, List.filter_append, List.filter_cons_of_pos (by simpa using h)]
        simp
      · refine ⟨s, ?_⟩
        rw [eC, tk, List.filter_append, List.filter_cons_of_neg (by simpa using h)]
        simp
    · rintro C H6 hC ⟨s6, eC⟩
      rw [List.length_map, lW, List.take_length] at eC
      have s06 := s05.trans s6
      have ll : (ws.filter (fun f => decide (f.1 = x))).length ≤ 1000 := Nat.le_trans (List.length_filter_le _ _) lw
      walk_at "zz"
      refine ⟨r, dx, _, rfl, s06 _ _ e, rfl, ?_⟩
      walk_at "zz"
      refine Record_count_of_c (rc.same s06) ?_
      walk_at "zz"
      rename_i c7 hc7
      have s7 : Same H6 (upd H6 c7 (.lst [.int 0])) := Same.new hc7 (Same.refl H6)
      have e7 : upd H6 c7 (.lst [.int 0]) c7 = some (.lst (([0] : List Int).map V.int)) := upd_same
      have eC7 := s7 _ _ eC
      generalize upd H6 c7 (.lst [.int 0]) = H7 at *
      refine z_addI (s6.trans s7) eC7 e7 (by rw [List.length_map]; show _ + 1 ≤ _; omega) fun tt H8 _ s8 _ e8 => ?_
      walk_at "zz"
      refine z_ix (.inl (SqL.of e8)) (at_intj (j := 0) cnV_head) ?_
      walk_at "zy"
      exact ⟨s5.trans s8, _, _, _, rfl⟩
  · rintro σ' H5 ⟨s5, w8', w11, w12, rfl⟩
    walk_at "zz"
    exact q _ (s4.trans s5)

theorem All2.append {α β : Type} {R : α → β → Prop} {as cs : List α} {bs ds : List β} (h : All2 R as bs) (k : All2 R cs ds) : All2 R (as ++ cs) (bs ++ ds) := by
  induction h with
  | nil => exact k
  | cons h t ih => exact .cons h ih
def ThOk (b : Nat) (as : List Int) (prs : List (Str × V)) (ws : List (Str × Int)) : Prop := as.length ≤ b ∧ prs.length ≤ b ∧ (∀ x ∈ prs, vSm x.2) ∧ ws.length ≤ b
theorem ThOk.up {b c : Nat} {as : List Int} {prs : List (Str × V)} {ws : List (Str × Int)} (l : b ≤ c) (h : ThOk b as prs ws) : ThOk c as prs ws := ⟨Nat.le_trans h.1 l, Nat.le_trans h.2.1 l, h.2.2.1, Nat.le_trans h.2.2.2 l⟩
abbrev CS (st L dr th : Addr) (n : Int) (j : Nat) (H0 : Hp) (b : Nat) (σ : L2.St) (H : Hp) : Prop := ∃ (nm : Str) (A P W : Addr) (as : List Int) (prs : List (Str × V)) (ws : List (Str × Int)) (w9 w10 w11 : Option V), σ = [some (.ref st), some (.ref dr), some (.ref th), some (.str nm), some (.ref A), some (.ref P), some (.ref W), some (.int n), some (.int (j : Nat)), w9, w10, w11] ∧ Draw H st L ∧ ExD H0 H ∧ Th0 H A P W as prs ws ∧ ThOk b as prs ws
theorem cut1_len (as : List Int) (lo hi : Option Int) : (cutV (as.map V.int) lo hi).length ≤ as.length := by
  rw [cutV_ints, List.length_map, List.length_take, List.length_drop]; omega
theorem cut_ex (as : List Int) (lo hi : Option Int) : ∃ ys : List Int, cutV (as.map V.int) lo hi = ys.map V.int ∧ ys.length ≤ as.length := ⟨_, cutV_ints as lo hi, by have h := cut1_len as lo hi; rw [cutV_ints, List.length_map] at h; exact h⟩
theorem place_ints {xs : List Int} {j : Nat} (h : j < xs.length) : ∃ v, xs[j]? = some v := ⟨_, List.getElem?_eq_getElem h⟩
/-- the first alone, or nothing -/
theorem cut_one {H : Hp} {α : Type} {R : Addr → α → Prop} {ps : List Addr} {l : List α} (r : All2 R ps l) : ∃ (qs : List Addr) (m : List α), cutV (ps.map V.ref) none (some 1) = qs.map V.ref ∧ All2 R qs m ∧ m.length ≤ 1 ∧ ∀ x ∈ m, x ∈ l := by
  rw [cutV_refs]
  refine ⟨_, (l.drop (HT.sIx ps.length 0 none)).take (HT.sIx ps.length ps.length (some 1) - HT.sIx ps.length 0 none), rfl, (r.drop _).take _, ?_, fun x hx => List.mem_of_mem_drop (List.mem_of_mem_take hx)⟩
  rw [sIx_pos (by decide), List.length_take]
  have : min (1 : Int).toNat ps.length ≤ 1 := Nat.min_le_left _ _
  omega
abbrev N_law_change : List Str := ["_law_state", "_law_drawn", "_law_thing", "_law_name_here", "_law_vector", "_law_pairs_here", "_law_words_here", "_law_kind_here", "_law_place", "_law_field", "_law_worth", "_law_k"]
-- _law_change(_law_state, _law_drawn, _law_thing): slots 0:_law_state 1:_law_drawn 2:_law_thing 3:_law_name_here 4:_law_vector 5:_law_pairs_here 6:_law_words_here 7:_law_kind_here 8:_law_place 9:_law_field 10:_law_worth 11:_law_k
def T_law_change (K : PySem.W.Frag) : TS :=
    (tSeq (tAsg (tVar 2) (gTup K 4 (gCons (gName 3) (gCons (gName 4) (gCons (gName 5) (gCons (gName 6) gNil))))))
    (tSeq (tAsg (tCal (sp_law_next K) (tCons (tVar 0) (tCons (tC (.int 12)) tNil))) (gName 7))
    (tSeq (tAsg (tBM K "list" (rIndex K) (tLst (tCons (tC (.str "bit")) (tCons (tC (.str "small")) (tCons (tC (.str "wide")) tNil)))) (tCons (tOp (uIx K) (tVar 1) (tC (.int 1))) tNil)) (gName 8))
    (tCut (tIfS (tTest (tOp (uEq K) (tVar 7) (tC (.int 0)))) (tAsg (tC (.str "")) (gName 3)) tNext)
    (tCut (tIfS (tTest (tOp (uEq K) (tVar 7) (tC (.int 1)))) (tAsg (tOp (uAdd K) (tVar 4) (tLst (tCons (tC (.int 0)) tNil))) (gName 4)) tNext)
    (tCut (tIfS (tTest (tOp (uEq K) (tVar 7) (tC (.int 2)))) (tAsg (tSl (uSl K) (tVar 4) (tPart (tC (.int 1))) tNoPart) (gName 4)) tNext)
    (tCut (tIfS (tTest (tOp (uEq K) (tVar 7) (tC (.int 3)))) (tAsg (tOp (uAdd K) (tSl (uSl K) (tVar 4) (tPart (tC (.int 1))) tNoPart) (tLst (tCons (tOp (uIx K) (tLst (tCons (tC (.int 2)) (tCons (tC (.int 128)) (tCons (tC (.int 32768)) tNil)))) (tVar 8)) tNil))) (gName 4)) tNext)
    (tCut (tIfS (tTest (tOp (uEq K) (tVar 7) (tC (.int 4)))) (tAsg (tOp (uAdd K) (tLst (tCons (tOp (uIx K) (tLst (tCons (tUn uNeg (tC (.int 1))) (tCons (tUn uNeg (tC (.int 129))) (tCons (tUn uNeg (tC (.int 32769))) tNil)))) (tVar 8)) tNil)) (tSl (uSl K) (tVar 4) (tPart (tC (.int 1))) tNoPart)) (gName 4)) tNext)
    (tCut (tIfS (tTest (tOp (uEq K) (tVar 7) (tC (.int 5)))) (tAsg (tOp (uAdd K) (tVar 5) (tLst (tCons (tTup (tCons (tC (.str "zz")) (tCons (tC (.int 1)) tNil))) tNil))) (gName 5)) tNext)
    (tCut (tIfS (tTest (tOp (uEq K) (tVar 7) (tC (.int 6)))) (tAsg (tOp (uAdd K) (tVar 5) (tSl (uSl K) (tVar 5) tNoPart (tPart (tC (.int 1))))) (gName 5)) tNext)
    (tCut (tIfS (tTest (tOp (uEq K) (tVar 7) (tC (.int 7)))) (tAsg (tLc (iSq K (tVar 5)) (gTup K 2 (gCons (gName 9) (gCons (gName 10) gNil))) tYes (tTup (tCons (tVar 9) (tCons (tOp (uIx K) (tLst (tCons (tC (.bl true)) (tCons (tC (.str "t")) (tCons (tC (.int 3)) tNil)))) (tCal (sp_law_next K) (tCons (tVar 0) (tCons (tC (.int 3)) tNil)))) tNil))) [9, 10]) (gName 5)) tNext)
    (tCut (tIfS (tTest (tOp (uEq K) (tVar 7) (tC (.int 8)))) (tAsg (tOp (uAdd K) (tVar 6) (tSl (uSl K) (tVar 6) tNoPart (tPart (tC (.int 1))))) (gName 6)) tNext)
    (tCut (tIfS (tTest (tOp (uEq K) (tVar 7) (tC (.int 9)))) (tAsg (tOp (uAdd K) (tLst (tCons (tTup (tCons (tC (.str "")) (tCons (tC (.int 1)) tNil))) tNil)) (tVar 6)) (gName 6)) tNext)
    (tCut (tIfS (tTest (tOp (uEq K) (tVar 7) (tC (.int 10)))) (tAsg (tOp (uAdd K) (tVar 6) (tLst (tCons (tTup (tCons (tC (.str "zebra")) (tCons (tCal (sp_law_next K) (tCons (tVar 0) (tCons (tC (.int 2)) tNil))) tNil))) tNil))) (gName 6)) tNext)
    (tCut (tIfS (tTest (tOp (uEq K) (tVar 7) (tC (.int 11)))) (tAsg (tLc (iRng1 (tCons (tCB (uLen K) (tCons (tVar 5) tNil)) tNil)) (gName 11) tYes (tOp (uIx K) (tVar 5) (tOp uSub (tOp uSub (tCB (uLen K) (tCons (tVar 5) tNil)) (tC (.int 1))) (tVar 11))) [11]) (gName 5)) tNext)
    (tRet (tTup (tCons (tVar 3) (tCons (tVar 4) (tCons (tVar 5) (tCons (tVar 6) tNil)))))))))))))))))))))

def sp_law_change (K : PySem.W.Frag) : Sp := fun vs H Q _ => ∃ (st L dr th A P W z2 z3 : Addr) (z1 : V) (nm w : Str) (as : List Int) (prs : List (Str × V)) (ws : List (Str × Int)), vs = [.ref st, .ref dr, .ref th] ∧ Draw H st L ∧ (∃ z1 z2 z3, H dr = some (.tup [z1, .str w, z2, z3])) ∧ w ∈ WDT ∧ H th = some (.tup [.str nm, .ref A, .ref P, .ref W]) ∧ Th0 H A P W as prs ws ∧ ThOk 4 as prs ws ∧
  ∀ (t A P W : Addr) (nm : Str) (as : List Int) (prs : List (Str × V)) (ws : List (Str × Int)) (H' : Hp), H' t = some (.tup [.str nm, .ref A, .ref P, .ref W]) → Th0 H' A P W as prs ws → ThOk 100 as prs ws → Draw H' st L → ExD H H' → Q (.ref t) H'
theorem law_change_c {K : PySem.W.Frag} {st L dr th A P W : Addr} {z1 z2 z3 : V} {nm w : Str} {as : List Int} {prs : List (Str × V)} {ws : List (Str × Int)} {H : Hp} {Q : VK} {E : XK} (d : Draw H st L) (ed : H dr = some (.tup [z1, .str w, z2, z3])) (hw : w ∈ WDT) (et : H th = some (.tup [.str nm, .ref A, .ref P, .ref W])) (h : Th0 H A P W as prs ws) (ok : ThOk 4 as prs ws)
  (q : ∀ (t A P W : Addr) (nm : Str) (as : List Int) (prs : List (Str × V)) (ws : List (Str × Int)) (H' : Hp), H' t = some (.tup [.str nm, .ref A, .ref P, .ref W]) → Th0 H' A P W as prs ws → ThOk 100 as prs ws → Draw H' st L → ExD H H' → Q (.ref t) H') : sp_law_change K [.ref st, .ref dr, .ref th] H Q E := ⟨st, L, dr, th, A, P, W, 0, 0, .non, nm, w, as, prs, ws, rfl, d, ⟨z1, z2, z3, ed⟩, hw, et, h, ok, q⟩
theorem w_law_change {K : PySem.W.Frag} : Wd (T_law_change K) N_law_change 3 (sp_law_change K) := fun vs H Q E h => by
  obtain ⟨st, L, dr, th, A, P, W, _, _, _, nm, w, as, prs, ws, rfl, d, ⟨z1, z2, z3, ed⟩, hw, et, h0, ok, q⟩ := h
  obtain ⟨j, hj, ej, nj, _, _⟩ := wd_ix hw
  obtain ⟨ka, hka⟩ := place_ints (xs := [2, 128, 32768]) (j := j) hj
  obtain ⟨kb, hkb⟩ := place_ints (xs := [-1, -129, -32769]) (j := j) hj
  refine ⟨rfl, ?_⟩
  show T_law_change K _ [some (.ref st), some (.ref dr), some (.ref th), none, none, none, none, none, none, none, none, none] H
  unfold T_law_change
  walk_at "zz"
  refine z_gTup4 (SqT.of et) ?_
  walk_at "zz"
  refine law_next_c d (by decide) (by decide) fun n H1 a1 b1 d1 x1 => ?_
  have ed1 := x1.lk ed NotSt.tup
  have h1 := h0.exd x1
  walk_at "zz"
  rename_i c1 hc1
  have s2 : Same H1 (upd H1 c1 (.lst [V.str "bit", .str "small", .str "wide"])) := Same.new hc1 (Same.refl H1)
  refine z_indexS (ks := WDT) (SqL.of upd_same) ej nj ?_
  have d2 := d1.same s2
  have x2 := x1.trans (ExD.of s2)
  have h2 := h1.same s2
  show tCut _ _ _ _ (upd H1 c1 (.lst [V.str "bit", .str "small", .str "wide"]))
  generalize upd H1 c1 (.lst [V.str "bit", .str "small", .str "wide"]) = H2 at *
  obtain ⟨σ0, hσ⟩ : ∃ σ0 : L2.St, σ0 = [some (.ref st), some (.ref dr), some (.ref th), some (.str nm), some (.ref A), some (.ref P), some (.ref W), some (.int n), some (.int (j : Nat)), none, none, none] := ⟨_, rfl⟩
  have S0 : CS st L dr th n j H 4 σ0 H2 := ⟨nm, A, P, W, as, prs, ws, _, _, _, hσ, d2, x2, h2, ok⟩
  show tCut _ _ _ [some (.ref st), some (.ref dr), some (.ref th), some (.str nm), some (.ref A), some (.ref P), some (.ref W), some (.int n), some (.int (j : Nat)), none, none, none] H2
  rw [← hσ]
  clear hσ h2 x2 d2 ok h1 ed1 x1 d1 h0 d et ed hc1 s2
  revert S0
  generalize H2 = H3
  generalize σ0 = σ1
  clear nm A P W as prs ws
  intro S0
  refine z_cut (CS st L dr th n j H 5) ?_ ?_
  · clear q
    obtain ⟨nm, A, P, W, as, prs, ws, w9, w10, w11, rfl, d, x, th', ok⟩ := S0
    rename_i Z
    walk_at "zz"
    refine z_itD (fun h => ?_) (fun h => ?_)
    · clear h
      walk_at "zz"
      exact ⟨_, A, P, W, as, prs, ws, _, _, _, rfl, d, x, th', ok.up (by decide)⟩
    · exact ⟨nm, A, P, W, as, prs, ws, w9, w10, w11, rfl, d, x, th', ok.up (by decide)⟩
  clear S0
  rintro σ Z S0
  refine z_cut (CS st L dr th n j H 6) ?_ ?_
  · clear q
    obtain ⟨nm, A, P, W, as, prs, ws, w9, w10, w11, rfl, d, x, th', ok⟩ := S0
    rename_i Z
    walk_at "zz"
    refine z_itD (fun h => ?_) (fun h => ?_)
    · clear h
      walk_at "zz"
      rename_i c hc
      have s := Same.new (o := .lst [.int 0]) hc (Same.refl Z)
      have ec : upd Z c (.lst [.int 0]) c = some (.lst (([0] : List Int).map V.int)) := upd_same
      have eA := s _ _ th'.1
      generalize upd Z c (.lst [.int 0]) = Y at *
      refine z_addI s eA ec (by have := ok.1; show _ + 1 ≤ _; omega) fun t X _ s' _ e' => ?_
      exact ⟨_, t, P, W, as ++ [0], prs, ws, _, _, _, rfl, d.same s', x.trans (ExD.of s'), ⟨e', th'.2.1.same s', th'.2.2.same s'⟩, by rw [List.length_append]; exact Nat.add_le_add_right ok.1 1, Nat.le_succ_of_le ok.2.1, ok.2.2.1, Nat.le_succ_of_le ok.2.2.2⟩
    · exact ⟨nm, A, P, W, as, prs, ws, w9, w10, w11, rfl, d, x, th', ok.up (by decide)⟩
  clear S0
  rintro σ Z S0
  refine z_cut (CS st L dr th n j H 7) ?_ ?_
  · clear q
    obtain ⟨nm, A, P, W, as, prs, ws, w9, w10, w11, rfl, d, x, th', ok⟩ := S0
    rename_i Z
    walk_at "zz"
    refine z_itD (fun h => ?_) (fun h => ?_)
    · clear h
      have eA := th'.1
      walk_at "zz"
      rename_i t ht
      obtain ⟨ys, hys, ll⟩ := cut_ex as (some 1) none
      rw [hys]
      have s := Same.new (o := .lst (ys.map V.int)) ht (Same.refl Z)
      have ec : upd Z t (.lst (ys.map V.int)) t = some (.lst (ys.map V.int)) := upd_same
      exact ⟨_, t, P, W, ys, prs, ws, _, _, _, rfl, d.same s, x.trans (ExD.of s), ⟨ec, th'.2.1.same s, th'.2.2.same s⟩, Nat.le_succ_of_le (Nat.le_trans ll ok.1), Nat.le_succ_of_le ok.2.1, ok.2.2.1, Nat.le_succ_of_le ok.2.2.2⟩
    · exact ⟨nm, A, P, W, as, prs, ws, w9, w10, w11, rfl, d, x, th', ok.up (by decide)⟩
  clear S0
  rintro σ Z S0
  refine z_cut (CS st L dr th n j H 8) ?_ ?_
  · clear q
    obtain ⟨nm, A, P, W, as, prs, ws, w9, w10, w11, rfl, d, x, th', ok⟩ := S0
    rename_i Z
    walk_at "zz"
    refine z_itD (fun h => ?_) (fun h => ?_)
    · clear h
      have eA := th'.1
      walk_at "zz"
      rename_i t ht c1 hc1
      obtain ⟨ys, hys, ll⟩ := cut_ex as (some 1) none
      rw [hys] at hc1 ⊢
      have s := Same.new (o := .lst (ys.map V.int)) ht (Same.refl Z)
      have ec : upd Z t (.lst (ys.map V.int)) t = some (.lst (ys.map V.int)) := upd_same
      generalize upd Z t (.lst (ys.map V.int)) = Y at *
      have s1 := Same.new (o := .lst [.int 2, .int 128, .int 32768]) hc1 s
      have ec1 := lk_new (o := .lst [.int 2, .int 128, .int 32768]) hc1 ec
      refine z_ix (.inl (SqL.of (xs := (([2, 128, 32768] : List Int).map V.int)) upd_same)) (at_intj (xs := [2, 128, 32768]) hka) ?_
      generalize upd Y c1 (.lst [.int 2, .int 128, .int 32768]) = U at *
      walk_at "zz"
      rename_i c2 hc2
      have s2 := Same.new (o := .lst [.int ka]) hc2 s1
      have ec2 := lk_new (o := .lst [.int ka]) hc2 ec1
      have e2 : upd U c2 (.lst [.int ka]) c2 = some (.lst (([ka] : List Int).map V.int)) := upd_same
      refine z_addI s2 ec2 e2 (by have := ok.1; show _ + 1 ≤ _; omega) fun t2 X _ s' _ e' => ?_
      exact ⟨_, t2, P, W, _, prs, ws, _, _, _, rfl, d.same s', x.trans (ExD.of s'), ⟨e', th'.2.1.same s', th'.2.2.same s'⟩, by rw [List.length_append]; exact Nat.add_le_add_right (Nat.le_trans ll ok.1) 1, Nat.le_succ_of_le ok.2.1, ok.2.2.1, Nat.le_succ_of_le ok.2.2.2⟩
    · exact ⟨nm, A, P, W, as, prs, ws, w9, w10, w11, rfl, d, x, th', ok.up (by decide)⟩
  clear S0
  rintro σ Z S0
  refine z_cut (CS st L dr th n j H 9) ?_ ?_
  · clear q
    obtain ⟨nm, A, P, W, as, prs, ws, w9, w10, w11, rfl, d, x, th', ok⟩ := S0
    rename_i Z
    walk_at "zz"
    refine z_itD (fun h => ?_) (fun h => ?_)
    · clear h
      walk_at "zz"
      rename_i c1 hc1
      have s1 := Same.new (o := .lst [.int (-1), .int (-129), .int (-32769)]) hc1 (Same.refl Z)
      refine z_ix (.inl (SqL.of (xs := (([-1, -129, -32769] : List Int).map V.int)) upd_same)) (at_intj (xs := [-1, -129, -32769]) hkb) ?_
      generalize upd Z c1 (.lst [.int (-1), .int (-129), .int (-32769)]) = U at *
      have eA := s1 _ _ th'.1
      walk_at "zz"
      rename_i c2 hc2 t ht
      obtain ⟨ys, hys, ll⟩ := cut_ex as (some 1) none
      rw [hys]
      have s2 := Same.new (o := .lst [.int kb]) hc2 s1
      have e2 : upd U c2 (.lst [.int kb]) c2 = some (.lst (([kb] : List Int).map V.int)) := upd_same
      generalize upd U c2 (.lst [.int kb]) = Y at *
      have s := Same.new (o := .lst (ys.map V.int)) ht s2
      have ec : upd Y t (.lst (ys.map V.int)) t = some (.lst (ys.map V.int)) := upd_same
      have e3 := lk_new (o := .lst (ys.map V.int)) ht e2
      refine z_addI s e3 ec (by have := ok.1; show 1 + _ ≤ _; omega) fun t2 X _ s' _ e' => ?_
      exact ⟨_, t2, P, W, _, prs, ws, _, _, _, rfl, d.same s', x.trans (ExD.of s'), ⟨e', th'.2.1.same s', th'.2.2.same s'⟩, by rw [List.length_append]; show 1 + _ ≤ _; have := ok.1; omega, Nat.le_succ_of_le ok.2.1, ok.2.2.1, Nat.le_succ_of_le ok.2.2.2⟩
    · exact ⟨nm, A, P, W, as, prs, ws, w9, w10, w11, rfl, d, x, th', ok.up (by decide)⟩
  clear S0
  rintro σ Z S0
  refine z_cut (CS st L dr th n j H 10) ?_ ?_
  · clear q
    obtain ⟨nm, A, P, W, as, prs, ws, w9, w10, w11, rfl, d, x, th', ok⟩ := S0
    rename_i Z
    walk_at "zz"
    refine z_itD (fun h => ?_) (fun h => ?_)
    · clear h
      walk_at "zz"
      rename_i u hu c hc
      obtain ⟨ps, eP, rP⟩ := th'.2.1
      have lP := All2.len rP
      have s := Same.new (o := .tup [.str "zz", .int 1]) hu (Same.refl Z)
      have eu : upd Z u (.tup [.str "zz", .int 1]) u = some (.tup [.str "zz", .int 1]) := upd_same
      generalize upd Z u (.tup [.str "zz", .int 1]) = Y at *
      have s1 := Same.new (o := .lst [.ref u]) hc s
      have eu1 := lk_new (o := .lst [.ref u]) hc eu
      have e1 : upd Y c (.lst [.ref u]) c = some (.lst [.ref u]) := upd_same
      generalize upd Y c (.lst [.ref u]) = U at *
      refine z_addL (s1 _ _ eP) e1 (by rw [List.length_map]; have := ok.2.1; show _ + 1 ≤ _; omega) fun t ht => ?_
      have s2 := Same.new (o := .lst (ps.map V.ref ++ [.ref u])) ht s1
      have eu2 := lk_new (o := .lst (ps.map V.ref ++ [.ref u])) ht eu1
      have e2 : upd U t (.lst (ps.map V.ref ++ [.ref u])) t = some (.lst ((ps ++ [u]).map V.ref)) := by rw [upd_same]; simp
      exact ⟨_, A, t, W, as, prs ++ ([("zz", .int 1)] : List (Str × V)), ws, _, _, _, rfl, d.same s2, x.trans (ExD.of s2), ⟨s2 _ _ th'.1, ⟨_, e2, All2.append (All2.imp (fun _ _ h => s2 _ _ h) rP) (.cons eu2 .nil)⟩, th'.2.2.same s2⟩, Nat.le_succ_of_le ok.1, by rw [List.length_append]; show _ + 1 ≤ _; have := ok.2.1; omega, (fun y hy => by rcases List.mem_append.mp hy with h | h; exact ok.2.2.1 y h; rw [List.mem_singleton.mp h]; trivial), Nat.le_succ_of_le ok.2.2.2⟩
    · exact ⟨nm, A, P, W, as, prs, ws, w9, w10, w11, rfl, d, x, th', ok.up (by decide)⟩
  clear S0
  rintro σ Z S0
  refine z_cut (CS st L dr th n j H 11) ?_ ?_
  · clear q
    obtain ⟨nm, A, P, W, as, prs, ws, w9, w10, w11, rfl, d, x, th', ok⟩ := S0
    rename_i Z
    walk_at "zz"
    refine z_itD (fun h => ?_) (fun h => ?_)
    · clear h
      obtain ⟨ps, eP, rP⟩ := th'.2.1
      have lP := All2.len rP
      walk_at "zz"
      rename_i t ht
      obtain ⟨qs, m, ecut, rq, lm, mm⟩ := cut_one (H := Z) rP
      rw [ecut]
      have lq := All2.len rq
      have s := Same.new (o := .lst (qs.map V.ref)) ht (Same.refl Z)
      have e1 : upd Z t (.lst (qs.map V.ref)) t = some (.lst (qs.map V.ref)) := upd_same
      generalize upd Z t (.lst (qs.map V.ref)) = U at *
      refine z_addL (s _ _ eP) e1 (by rw [List.length_map, List.length_map]; have := ok.2.1; omega) fun t2 ht2 => ?_
      have s2 := Same.new (o := .lst (ps.map V.ref ++ qs.map V.ref)) ht2 s
      have e2 : upd U t2 (.lst (ps.map V.ref ++ qs.map V.ref)) t2 = some (.lst ((ps ++ qs).map V.ref)) := by rw [upd_same]; simp
      exact ⟨_, A, t2, W, as, prs ++ m, ws, _, _, _, rfl, d.same s2, x.trans (ExD.of s2), ⟨s2 _ _ th'.1, ⟨_, e2, All2.append (All2.imp (fun _ _ h => s2 _ _ h) rP) (All2.imp (fun _ _ h => s2 _ _ h) rq)⟩, th'.2.2.same s2⟩, Nat.le_succ_of_le ok.1, by rw [List.length_append]; have := ok.2.1; omega, (fun y hy => by rcases List.mem_append.mp hy with h | h; exact ok.2.2.1 y h; exact ok.2.2.1 y (mm y h)), Nat.le_succ_of_le ok.2.2.2⟩
    · exact ⟨nm, A, P, W, as, prs, ws, w9, w10, w11, rfl, d, x, th', ok.up (by decide)⟩
  clear S0
  rintro σ Z S0
  refine z_cut (CS st L dr th n j H 12) ?_ ?_
  · clear q
    obtain ⟨nm, A, P, W, as, prs, ws, w9, w10, w11, rfl, d, x, th', ok⟩ := S0
    rename_i Z
    walk_at "zz"
    refine z_itD (fun h => ?_) (fun h => ?_)
    · clear h
      obtain ⟨ps, eP, rP⟩ := th'.2.1
      have lP := All2.len rP
      walk_at "zz"
      refine z_lcl (SqL.of eP) (fun C i H' => ExD Z H' ∧ Draw H' st L ∧ ∃ (qs : List Addr) (m : List (Str × V)), H' C = some (.lst (qs.map V.ref)) ∧ All2 (fun q (x : Str × V) => H' q = some (.tup [.str x.1, x.2])) qs m ∧ m.length = i ∧ ∀ x ∈ m, vSm x.2)
        (fun C hC => ⟨ExD.new hC (ExD.refl _), Draw.new hC d, [], [], upd_same, .nil, rfl, fun _ h => nomatch h⟩) (fun C i H' _ _ z => SqL.of (z.1.lk eP NotSt.refs)) ?_ ?_
      · rintro C i y Y hC hy ⟨xY, dY, qs, m, eC, rq, lm, vm⟩
        obtain ⟨hi, rfl⟩ := map_ref hy
        have hi2 : i < prs.length := by omega
        have lq := All2.len rq
        have ep := xY.lk (All2.atD rP 0 dFV hi2) NotSt.tup
        generalize (prs.getD i dFV) = pv at *
        refine z_gTup2 (SqT.of ep) ?_
        refine ⟨rfl, ?_⟩
        walk_at "zz"
        rename_i c hc
        have s1 := Same.new (o := .lst [.bl true, .str "t", .int 3]) hc (Same.refl Y)
        have e1 : upd Y c (.lst [.bl true, .str "t", .int 3]) c = some (.lst [.bl true, .str "t", .int 3]) := upd_same
        have n1 : NotSt (.lst [.bl true, .str "t", .int 3]) := fun _ _ _ z => by cases z
        refine law_next_c (st := st) (L := L) (dY.same s1) (by decide) (by decide) fun k U ak bk dU xU => ?_
        have xYU := (ExD.of s1).trans xU
        have e2 := xU.lk e1 n1
        obtain ⟨v, hv, vv⟩ : ∃ v, atI [V.bl true, .str "t", .int 3] k = some v ∧ vSm v := by
          have : k = 0 ∨ k = 1 ∨ k = 2 := by omega
          rcases this with rfl | rfl | rfl
          · exact ⟨_, rfl, trivial⟩
          · exact ⟨_, rfl, by show (Str.ofString "t").length ≤ 100; decide⟩
          · exact ⟨_, rfl, trivial⟩
        refine z_ix (.inl (SqL.of e2)) hv ?_
        walk_at "zz"
        rename_i u hu
        have eC2 := lk_new (o := .tup [.str pv.1, v]) hu (xYU.lk eC NotSt.refs)
        refine z_accum eC2 (by rw [List.length_map]; have := ok.2.1; omega) ?_
        refine ⟨?_, Draw.put (Draw.ne hC d) (Draw.neL hC d) (Draw.new hu dU), qs ++ [u], m ++ [(pv.1, v)], by rw [upd_same, ref_app], ?_, by simp [lm], ?_⟩
        · intro b o no eb
          exact lk_ne (ne_of_none eb hC) (lk_new hu (xYU _ _ no (xY b o no eb)))
        · refine All2.app (All2.imp (fun _ _ e => lk_df (lk_new hu (xYU _ _ NotSt.tup e)) eC2 (fun z => by cases z)) rq) ?_
          exact lk_df upd_same eC2 (fun z => by cases z)
        · intro y hy
          rcases List.mem_append.mp hy with h | h
          · exact vm y h
          · rw [List.mem_singleton.mp h]; exact vv
      · rintro C Y hC ⟨xY, dY, qs, m, eC, rq, lm, vm⟩
        have lm2 : m.length ≤ prs.length := by rw [lm, List.length_map]; omega
        exact ⟨_, A, C, W, as, m, ws, _, _, _, rfl, dY, x.trans xY, ⟨xY.lk th'.1 NotSt.ints, ⟨qs, eC, rq⟩, th'.2.2.exd xY⟩, Nat.le_succ_of_le ok.1, Nat.le_succ_of_le (Nat.le_trans lm2 ok.2.1), vm, Nat.le_succ_of_le ok.2.2.2⟩
    · exact ⟨nm, A, P, W, as, prs, ws, w9, w10, w11, rfl, d, x, th', ok.up (by decide)⟩
  clear S0
  rintro σ Z S0
  refine z_cut (CS st L dr th n j H 13) ?_ ?_
  · clear q
    obtain ⟨nm, A, P, W, as, prs, ws, w9, w10, w11, rfl, d, x, th', ok⟩ := S0
    rename_i Z
    walk_at "zz"
    refine z_itD (fun h => ?_) (fun h => ?_)
    · clear h
      obtain ⟨ps, eP, rP⟩ := th'.2.2
      have lP := All2.len rP
      walk_at "zz"
      rename_i t ht
      obtain ⟨qs, m, ecut, rq, lm, mm⟩ := cut_one (H := Z) rP
      rw [ecut]
      have lq := All2.len rq
      have s := Same.new (o := .lst (qs.map V.ref)) ht (Same.refl Z)
      have e1 : upd Z t (.lst (qs.map V.ref)) t = some (.lst (qs.map V.ref)) := upd_same
      generalize upd Z t (.lst (qs.map V.ref)) = U at *
      refine z_addL (s _ _ eP) e1 (by rw [List.length_map, List.length_map]; have := ok.2.2.2; omega) fun t2 ht2 => ?_
      have s2 := Same.new (o := .lst (ps.map V.ref ++ qs.map V.ref)) ht2 s
      have e2 : upd U t2 (.lst (ps.map V.ref ++ qs.map V.ref)) t2 = some (.lst ((ps ++ qs).map V.ref)) := by rw [upd_same]; simp
      exact ⟨_, A, P, t2, as, prs, ws ++ m, _, _, _, rfl, d.same s2, x.trans (ExD.of s2), ⟨s2 _ _ th'.1, th'.2.1.same s2, ⟨_, e2, All2.append (All2.imp (fun _ _ h => s2 _ _ h) rP) (All2.imp (fun _ _ h => s2 _ _ h) rq)⟩⟩, Nat.le_succ_of_le ok.1, Nat.le_succ_of_le ok.2.1, ok.2.2.1, by rw [List.length_append]; have := ok.2.2.2; omega⟩
    · exact ⟨nm, A, P, W, as, prs, ws, w9, w10, w11, rfl, d, x, th', ok.up (by decide)⟩
  clear S0
  rintro σ Z S0
  refine z_cut (CS st L dr th n j H 14) ?_ ?_
  · clear q
    obtain ⟨nm, A, P, W, as, prs, ws, w9, w10, w11, rfl, d, x, th', ok⟩ := S0
    rename_i Z
    walk_at "zz"
    refine z_itD (fun h => ?_) (fun h => ?_)
    · clear h
      walk_at "zz"
      rename_i u hu c hc
      obtain ⟨ps, eP, rP⟩ := th'.2.2
      have lP := All2.len rP
      have s := Same.new (o := .tup [.str "", .int 1]) hu (Same.refl Z)
      have eu : upd Z u (.tup [.str "", .int 1]) u = some (.tup [.str "", .int 1]) := upd_same
      generalize upd Z u (.tup [.str "", .int 1]) = Y at *
      have s1 := Same.new (o := .lst [.ref u]) hc s
      have eu1 := lk_new (o := .lst [.ref u]) hc eu
      have e1 : upd Y c (.lst [.ref u]) c = some (.lst [.ref u]) := upd_same
      generalize upd Y c (.lst [.ref u]) = U at *
      refine z_addL e1 (s1 _ _ eP) (by rw [List.length_map]; have := ok.2.2.2; show 1 + _ ≤ _; omega) fun t ht => ?_
      have s2 := Same.new (o := .lst ([.ref u] ++ ps.map V.ref)) ht s1
      have eu2 := lk_new (o := .lst ([.ref u] ++ ps.map V.ref)) ht eu1
      have e2 : upd U t (.lst ([.ref u] ++ ps.map V.ref)) t = some (.lst (([u] ++ ps).map V.ref)) := by rw [upd_same]; simp
      exact ⟨_, A, P, t, as, prs, ([("", 1)] : List (Str × Int)) ++ ws, _, _, _, rfl, d.same s2, x.trans (ExD.of s2), ⟨s2 _ _ th'.1, th'.2.1.same s2, ⟨_, e2, All2.append (.cons eu2 .nil) (All2.imp (fun _ _ h => s2 _ _ h) rP)⟩⟩, Nat.le_succ_of_le ok.1, Nat.le_succ_of_le ok.2.1, ok.2.2.1, by rw [List.length_append]; show 1 + _ ≤ _; have := ok.2.2.2; omega⟩
    · exact ⟨nm, A, P, W, as, prs, ws, w9, w10, w11, rfl, d, x, th', ok.up (by decide)⟩
  clear S0
  rintro σ Z S0
  refine z_cut (CS st L dr th n j H 15) ?_ ?_
  · clear q
    obtain ⟨nm, A, P, W, as, prs, ws, w9, w10, w11, rfl, d, x, th', ok⟩ := S0
    rename_i Z
    walk_at "zz"
    refine z_itD (fun h => ?_) (fun h => ?_)
    · clear h
      walk_at "zz"
      refine law_next_c d (by decide) (by decide) fun k Y0 ak bk dU xU => ?_
      replace x := x.trans xU
      replace d := dU
      replace th' := th'.exd xU
      clear dU
      walk_at "zz"
      rename_i u hu c hc
      obtain ⟨ps, eP, rP⟩ := th'.2.2
      have lP := All2.len rP
      have s := Same.new (o := .tup [.str "zebra", .int k]) hu (Same.refl Y0)
      have eu : upd Y0 u (.tup [.str "zebra", .int k]) u = some (.tup [.str "zebra", .int k]) := upd_same
      generalize upd Y0 u (.tup [.str "zebra", .int k]) = Y at *
      have s1 := Same.new (o := .lst [.ref u]) hc s
      have eu1 := lk_new (o := .lst [.ref u]) hc eu
      have e1 : upd Y c (.lst [.ref u]) c = some (.lst [.ref u]) := upd_same
      generalize upd Y c (.lst [.ref u]) = U at *
      refine z_addL (s1 _ _ eP) e1 (by rw [List.length_map]; have := ok.2.2.2; show _ + 1 ≤ _; omega) fun t ht => ?_
      have s2 := Same.new (o := .lst (ps.map V.ref ++ [.ref u])) ht s1
      have eu2 := lk_new (o := .lst (ps.map V.ref ++ [.ref u])) ht eu1
      have e2 : upd U t (.lst (ps.map V.ref ++ [.ref u])) t = some (.lst ((ps ++ [u]).map V.ref)) := by rw [upd_same]; simp
      exact ⟨_, A, P, t, as, prs, ws ++ ([("zebra", k)] : List (Str × Int)), _, _, _, rfl, d.same s2, x.trans (ExD.of s2), ⟨s2 _ _ th'.1, th'.2.1.same s2, ⟨_, e2, All2.append (All2.imp (fun _ _ h => s2 _ _ h) rP) (.cons eu2 .nil)⟩⟩, Nat.le_succ_of_le ok.1, Nat.le_succ_of_le ok.2.1, ok.2.2.1, by rw [List.length_append]; show _ + 1 ≤ _; have := ok.2.2.2; omega⟩
    · exact ⟨nm, A, P, W, as, prs, ws, w9, w10, w11, rfl, d, x, th', ok.up (by decide)⟩
  clear S0
  rintro σ Z S0
  refine z_cut (CS st L dr th n j H 16) ?_ ?_
  · clear q
    obtain ⟨nm, A, P, W, as, prs, ws, w9, w10, w11, rfl, d, x, th', ok⟩ := S0
    rename_i Z
    walk_at "zz"
    refine z_itD (fun h => ?_) (fun h => ?_)
    · clear h
      obtain ⟨ps, eP, rP⟩ := th'.2.1
      have lP := All2.len rP
      walk_at "zz"
      try refine z_len (.inl (SqL.of eP)) ?_
      walk_at "zz"
      refine z_lcr1 (by rw [List.length_map]; have := ok.2.1; omega) ?_
      refine z_lcr (fun C i H' => Same Z H' ∧ ∃ (qs : List Addr) (m : List (Str × V)), H' C = some (.lst (qs.map V.ref)) ∧ All2 (fun q (x : Str × V) => Z q = some (.tup [.str x.1, x.2])) qs m ∧ m.length = i ∧ ∀ x ∈ m, vSm x.2)
        (fun C hC => ⟨Same.new hC (Same.refl _), [], [], upd_same, .nil, rfl, fun _ h => nomatch h⟩) ?_ ?_
      · rintro C i Y hC hi ⟨sY, qs, m, eC, rq, lm, vm⟩
        rw [List.length_map] at hi
        have lq := All2.len rq
        walk_at "zz"
        refine ⟨rfl, ?_⟩
        walk_at "zz"
        try refine z_len (.inl (SqL.of (sY _ _ eP))) ?_
        walk_at "zz"
        refine z_ix (.inl (SqL.of (sY _ _ eP))) (at_ref (by rw [List.length_map]; omega) (by rw [List.length_map]; omega)) ?_
        rw [List.length_map]
        have hk : ((ps.length : Int) - 1 - (0 + (i : Int))).toNat < prs.length := by omega
        have ep := All2.atD rP 0 dFV hk
        have vk := ok.2.2.1 _ (getD_mem' dFV hk)
        refine z_accum eC (by rw [List.length_map]; have := ok.2.1; omega) ?_
        refine ⟨Same.put hC sY, qs ++ [_], m ++ [_], by rw [upd_same, ref_app], All2.app rq ep, by simp [lm], ?_⟩
        intro y hy
        rcases List.mem_append.mp hy with h | h
        · exact vm y h
        · rw [List.mem_singleton.mp h]; exact vk
      · rintro C Y hC ⟨sY, qs, m, eC, rq, lm, vm⟩
        have lm2 : m.length ≤ prs.length := by rw [lm, List.length_map]; omega
        exact ⟨_, A, C, W, as, m, ws, _, _, _, rfl, d.same sY, x.trans (ExD.of sY), ⟨sY _ _ th'.1, ⟨qs, eC, All2.imp (fun _ _ h => sY _ _ h) rq⟩, th'.2.2.same sY⟩, Nat.le_succ_of_le ok.1, Nat.le_succ_of_le (Nat.le_trans lm2 ok.2.1), vm, Nat.le_succ_of_le ok.2.2.2⟩
    · exact ⟨nm, A, P, W, as, prs, ws, w9, w10, w11, rfl, d, x, th', ok.up (by decide)⟩
  clear S0
  rintro σ Z S0
  obtain ⟨nm, A, P, W, as, prs, ws, w9, w10, w11, rfl, d, x, th', ok⟩ := S0
  walk_at "zz"
  rename_i t ht
  have s := Same.new (o := .tup [.str nm, .ref A, .ref P, .ref W]) ht (Same.refl Z)
  exact q t A P W nm as prs ws _ upd_same (th'.same s) (ok.up (by decide)) (d.same s) (x.trans (ExD.of s))

theorem wz_ok : ∀ x ∈ WZ, x.length ≤ 100 := by decide +kernel
theorem sqT_exd {K : PySem.W.Frag} {H0 H1 : Hp} {y : Addr} {zs : List V} (x : ExD H0 H1) (h : SqT K H0 y zs) : SqT K H1 y zs := by
  rcases h with (h | ⟨u, h⟩) | h
  · exact .inl (.inl (x _ _ NotSt.tup h))
  · exact .inl (.inr ⟨u, x _ _ (fun _ _ _ z => by cases z) h⟩)
  · exact .inr h
theorem SchAt.exd {K : PySem.W.Frag} {c : CEnv} {H H' : Hp} {p : Addr} {size : Int} {w m : Str} {fl : List (Str × Str)} (x : ExD H H') (h : SchAt K c H p size w m fl) : SchAt K c H' p size w m fl := by
  obtain ⟨tf, i, ps, e, r⟩ := h
  exact ⟨tf, i.exd x, ps, sqT_exd x e, All2.imp (fun _ _ e => sqT_exd x e) r⟩
abbrev N_law : List Str := ["_law_script", "_law_state", "_law_drawn", "_law_schema_here", "_law_turn", "_law_vector", "_law_k", "_law_thing", "_law_record", "_law_due"]
-- law(_law_script): slots 0:_law_script 1:_law_state 2:_law_drawn 3:_law_schema_here 4:_law_turn 5:_law_vector 6:_law_k 7:_law_thing 8:_law_record 9:_law_due
def T_law_b1 (K : PySem.W.Frag) (c : CEnv) : TS :=
    (tSeq (tAsg (tLc (iRng1 (tCons (tOp (uIx K) (tVar 2) (tC (.int 0))) tNil)) (gName 6) tYes (tCal (sp_law_number K) (tCons (tVar 1) (tCons (tOp (uIx K) (tVar 2) (tC (.int 1))) tNil))) [6]) (gName 5))
    (tSeq (tAsg (tTup (tCons (tCal (sp_law_name K) (tCons (tVar 1) tNil)) (tCons (tVar 5) (tCons (tCal (sp_law_pairs K) (tCons (tVar 1) (tCons (tOp (uIx K) (tVar 2) (tC (.int 3))) tNil))) (tCons (tCal (sp_law_words K) (tCons (tVar 1) tNil)) tNil))))) (gName 7))
    (tCut (tIfS (tTest (tOp uGt (tCal (sp_law_next K) (tCons (tVar 1) (tCons (tC (.int 3)) tNil))) (tC (.int 0)))) (tAsg (tCal (sp_law_change K) (tCons (tVar 1) (tCons (tVar 2) (tCons (tVar 7) tNil)))) (gName 7)) tNext)
    (tSeq (tAsg (tMkK K c "Record" ["name", "vector", "fields", "words"] 2 2 [] [(true, 0), (true, 1)] (sp_Record_init K c) W0 (tCons (tOp (uIx K) (tVar 7) (tC (.int 0))) (tCons (tCB (uList K) (tCons (tOp (uIx K) (tVar 7) (tC (.int 1))) tNil)) tNil)) (tCons (tCB (uList K) (tCons (tOp (uIx K) (tVar 7) (tC (.int 2))) tNil)) (tCons (tCB (uList K) (tCons (tOp (uIx K) (tVar 7) (tC (.int 3))) tNil)) tNil))) (gName 8))
    (tSeq (tAsg (tCal (sp_law_fits K) (tCons (tVar 2) (tCons (tOp (uIx K) (tVar 7) (tC (.int 0))) (tCons (tOp (uIx K) (tVar 7) (tC (.int 1))) (tCons (tOp (uIx K) (tVar 7) (tC (.int 2))) (tCons (tOp (uIx K) (tVar 7) (tC (.int 3))) tNil)))))) (gName 9))
    (tSeq (tIfS (tOr (tTest (tOp (uNe K) (tOp (uInO c "Schema" (sp_Schema_contains K c)) (tVar 8) (tVar 3)) (tVar 9))) (tTest (tOp (uNe K) (tCal (sp_law_refused K c) (tCons (tVar 3) (tCons (tVar 8) tNil))) (tNotV (tVar 9))))) (tRet (tC (.bl false))) tNext)
    (tIfS (tNot (tTru K (tCal (sp_law_tells K c) (tCons (tVar 8) (tCons (tVar 7) tNil))))) (tRet (tC (.bl false))) tNext)))))))
def T_law (K : PySem.W.Frag) (c : CEnv) : TS :=
    (tSeq (tAsg (tLst (tCons (tCB (uList K) (tCons (tVar 0) tNil)) (tCons (tC (.int 0)) (tCons (tC (.int 0)) tNil)))) (gName 1))
    (tSeq (tAsg (tCal (sp_law_schema K) (tCons (tVar 1) tNil)) (gName 2))
    (tSeq (tAsg (tMkK K c "Schema" ["size", "width", "measure", "fields"] 1 3 [] [(true, 0), (true, 1), (true, 2)] (sp_Schema_init K c) W0 (tCons (tOp (uIx K) (tVar 2) (tC (.int 0))) tNil) (tCons (tOp (uIx K) (tVar 2) (tC (.int 1))) (tCons (tOp (uIx K) (tVar 2) (tC (.int 2))) (tCons (tOp (uIx K) (tVar 2) (tC (.int 3))) tNil)))) (gName 3))
    (tSeq (tFor (iRng1 (tCons (tC (.int 4)) tNil)) (gName 4) (T_law_b1 K c))
    (tRet (tC (.bl true)))))))

theorem r_turn {K : PySem.W.Frag} {c : CEnv} {a p l t f g : Addr} {size : Int} {w m : Str} {fl : List (Str × Str)} {H2 H1 : Hp} {D : Ends} {v4 v5 v6 v7 v8 v9 : Option V} (et : H2 t = some (.tup [.int size, .str w, .str m, .ref f])) (hf : FldsAt H2 f fl) (okf : FldsOk fl) (l4 : fl.length ≤ 4) (good : SchGood size w m fl) (s4 : size ≤ 4) (sch : SchAt K c H2 g size w m fl) (d1 : Draw H1 p l) (x1 : ExD H2 H1)
    (q : ∀ (v5 v6 v7 v8 v9 : Option V) (H' : Hp), Draw H' p l → ExD H2 H' → D.nx [some (.ref a), some (.ref p), some (.ref t), some (.ref g), v4, v5, v6, v7, v8, v9] H') : T_law_b1 K c D [some (.ref a), some (.ref p), some (.ref t), some (.ref g), v4, v5, v6, v7, v8, v9] H1 := by
  have hw := good.wd
  have hsz := good.sz
  have et1 := x1.lk et NotSt.tup
  unfold T_law_b1
  walk_at "zz"
  refine z_lcr1 (by omega) ?_
  refine z_lcr (fun C i H' => ExD H1 H' ∧ Draw H' p l ∧ ∃ acc : List Int, H' C = some (.lst (acc.map V.int)) ∧ acc.length = i ∧ Bd 40000 acc) (fun C hC => ⟨ExD.new hC (ExD.refl _), Draw.new hC d1, [], upd_same, rfl, fun _ h => nomatch h⟩) ?_ ?_
  · rintro C j H9 hC hj ⟨x9, d9, acc, eC, la, ba⟩
    have et9 := x9.lk et1 NotSt.tup
    walk_at "zz"
    refine ⟨rfl, ?_⟩
    walk_at "zz"
    refine law_number_c d9 hw fun n H10 lo hi d10 x10 => ?_
    have lh := low_high w
    refine z_accum (x10.lk eC NotSt.ints) (by rw [List.length_map]; omega) ?_
    refine ⟨ExD.new hC (x9.trans x10), Draw.put (Draw.ne hC d1) (Draw.neL hC d1) d10, acc ++ [n], by rw [upd_same, List.map_append]; rfl, by simp [la], ba.app (by omega) (by omega)⟩
  rintro A H3 hA ⟨x3, d3, as, eA3, la, ba⟩
  have x23 := x1.trans x3
  clear x1 x3 et1 d1
  walk_at "zz"
  refine law_name_c d3 fun nm H4 hnm d4 x4 => ?_
  have x24 := x23.trans x4
  have et4 := x24.lk et NotSt.tup
  have hf4 := hf.exd x24
  have eA4 := x4.lk eA3 NotSt.ints
  walk_at "zz"
  refine law_pairs_c d4 hf4 (fun x hx => (okf.2 x hx).1) (by omega) fun r prs H5 hpr sub sm d5 x5 => ?_
  have eA5 := x5.lk eA4 NotSt.ints
  walk_at "zz"
  refine law_words_c d5 fun r2 ws H6 hwd sub2 cn d6 x6 => ?_
  have eA6 := x6.lk eA5 NotSt.ints
  have hpr6 := hpr.exd x6
  have x26 := (x24.trans x5).trans x6
  have lpr : prs.length ≤ 4 := by have := sub.length_le; simp at this; omega
  have lws : ws.length ≤ 4 := by have := sub2.length_le; simp at this; exact this
  have las : as.length ≤ 4 := by omega
  clear et4 hf4 eA3 eA4 eA5 hpr x23 x4 x24 x5 x6 d3 d4 d5 sub sub2 cn ba la hnm
  walk_at "zz"
  rename_i u hu
  have sU : Same H6 (upd H6 u (.tup [.str nm, .ref A, .ref r, .ref r2])) := Same.new hu (Same.refl H6)
  have eU : upd H6 u (.tup [.str nm, .ref A, .ref r, .ref r2]) u = some (.tup [.str nm, .ref A, .ref r, .ref r2]) := upd_same
  generalize upd H6 u (.tup [.str nm, .ref A, .ref r, .ref r2]) = H7 at *
  have th7 : Th0 H7 A r r2 as prs ws := ⟨sU _ _ eA6, hpr6.same sU, hwd.same sU⟩
  have d7 := d6.same sU
  have x27 := x26.trans (ExD.of sU)
  clear eA6 hpr6 hwd d6 x26 sU hu
  refine z_cut (fun σ H' => ∃ (u A2 P W : Addr) (nm : Str) (as : List Int) (prs : List (Str × V)) (ws : List (Str × Int)), σ = [some (.ref a), some (.ref p), some (.ref t), some (.ref g), v4, some (.ref A), v6, some (.ref u), v8, v9] ∧ H' u = some (.tup [.str nm, .ref A2, .ref P, .ref W]) ∧ Th0 H' A2 P W as prs ws ∧ ThOk 100 as prs ws ∧ Draw H' p l ∧ ExD H2 H') ?_ ?_
  · walk_at "zz"
    refine law_next_c d7 (by decide) (by decide) fun n8 H8 a8 b8 d8 x8 => ?_
    have x28 := x27.trans x8
    have th8 := th7.exd x8
    have eU8 := x8.lk eU NotSt.tup
    walk_at "zz"
    refine z_itD (fun h => ?_) (fun h => ?_)
    · walk_at "zz"
      refine law_change_c d8 (x28.lk et NotSt.tup) hw eU8 th8 ⟨las, lpr, sm, lws⟩ fun t9 A9 P9 W9 nm9 as9 prs9 ws9 H9 e9 th9 ok9 d9 x9 => ?_
      exact ⟨t9, A9, P9, W9, nm9, as9, prs9, ws9, rfl, e9, th9, ok9, d9, x28.trans x9⟩
    · walk_at "zz"
      exact ⟨u, A, r, r2, nm, as, prs, ws, rfl, eU8, th8, ⟨by omega, by omega, sm, by omega⟩, d8, x28⟩
  clear eU th7 d7 x27 las lpr sm lws nm prs ws as r r2 u
  rintro σ H8 ⟨u, A2, P, W, nm, as, prs, ws, rfl, eU, th, ⟨k1, k2, k3, k4⟩, d8, x8⟩
  obtain ⟨eA8, ⟨ps, eP8, rP8⟩, us, eW8, rW8⟩ := id th
  walk_at "zz"
  rename_i c1 hc1 c2 hc2 c3 hc3
  have s1 := Same.new (o := .lst (as.map V.int)) hc1 (Same.refl H8)
  have s2 := Same.new (o := .lst (ps.map V.ref)) hc2 s1
  have s3 := Same.new (o := .lst (us.map V.ref)) hc3 s2
  have e1 := lk_new (o := .lst (us.map V.ref)) hc3 (lk_new (o := .lst (ps.map V.ref)) hc2 (upd_same (H := H8) (a := c1) (o := .lst (as.map V.int))))
  have e2 := lk_new (o := .lst (us.map V.ref)) hc3 (upd_same (H := upd H8 c1 (.lst (as.map V.int))) (a := c2) (o := .lst (ps.map V.ref)))
  have e3 : upd (upd (upd H8 c1 (.lst (as.map V.int))) c2 (.lst (ps.map V.ref))) c3 (.lst (us.map V.ref)) c3 = _ := upd_same
  generalize upd (upd (upd H8 c1 (.lst (as.map V.int))) c2 (.lst (ps.map V.ref))) c3 (.lst (us.map V.ref)) = H9 at *
  have pP : PrsAt H9 c2 prs := ⟨ps, e2, All2.imp (fun _ _ e => s3 _ _ e) rP8⟩
  have pW : WdsAt H9 c3 ws := ⟨us, e3, All2.imp (fun _ _ e => s3 _ _ e) rW8⟩
  clear hc1 hc2 hc3 s1 s2 e2 e3 eA8 eP8 rP8 eW8 rW8
  refine ⟨rfl, rfl, ?_⟩
  rintro ok ds hds r dx hg hdx ne
  have h0 := cst0 hds
  subst h0
  show sp_Record_init K c [.ref r, .str nm, .ref c1, .ref c2, .ref c3] _ _ _
  have sM : ∀ o1 o2, Same H9 (upd (upd H9 dx o1) r o2) := fun o1 o2 => Same.put hg (Same.new hdx (Same.refl H9))
  refine Record_init_c ok upd_same (.inl (SqL.of (sM _ _ _ _ e1))) (pP.pairs.same (sM _ _)) (pW.pairs.same (sM _ _)) (by simp; omega) (by simp; omega) fun Ha ba ra => ?_
  refine ⟨rfl, ?_⟩
  have s8a := s3.trans (ba.out hg hdx)
  clear ba sM pP pW e1 s3 hg hdx ne
  have eUa := s8a _ _ eU
  have tha := th.same s8a
  have xa := x8.trans (ExD.of s8a)
  have da := d8.same s8a
  clear eU th x8 d8 s8a
  walk_at "zz"
  refine law_fits_c (f := f) (x := (size, w, m, fl)) ⟨xa.lk et NotSt.tup, hf.exd xa⟩ good (by show fl.length ≤ 1000; omega) tha k3 fun Hb sb => ?_
  have rb := ra.same sb
  have xb := xa.trans (ExD.of sb)
  have schb : SchAt K c Hb g size w m fl := sch.exd xb
  obtain ⟨tfs, ⟨_, dxg, eg⟩, _⟩ := id schb
  have eUb := sb _ _ eUa
  walk_at "zz"
  refine ⟨g, dxg, _, rfl, eg, g, r, (size, w, m, fl), nm, as, prs, ws, rfl, schb, good, (by show fl.length ≤ 1000; omega), rb, k3, _, rfl, ?_⟩
  generalize hfb : fitB (size, w, m, fl).1 (size, w, m, fl).2.1 (size, w, m, fl).2.2.2 nm as prs ws = fb
  walk_at "zy"
  refine ⟨g, r, (size, w, m, fl), nm, as, prs, ws, rfl, schb, good, (by show fl.length ≤ 1000; omega), rb, k3, ?_⟩
  rw [hfb]
  walk_at "zy"
  refine law_tells_c rb eUb (tha.same sb) k3 (by omega) fun Hc sc => ?_
  walk_at "zy"
  exact q _ _ _ _ _ _ ((da.same sb).same sc) (xb.trans (ExD.of sc))
theorem r_law {K : PySem.W.Frag} {c : CEnv} {a : Addr} {ns : List Int} {H : Hp} {D : Ends} (hS : SqL K H a (ns.map V.int)) (hl : ns.length ≤ 63) (q : ∀ H', D.rt (.bl true) H') : T_law K c D [some (.ref a), none, none, none, none, none, none, none, none, none] H := by
  unfold T_law
  walk_at "zz"
  rename_i l hl1 p hp
  have d0 := Draw.start hl1 hp
  generalize upd (upd H l (.lst (ns.map V.int))) p (.lst [.ref l, .int 0, .int 0]) = H0 at *
  refine law_schema_c d0 fun t f size w m fl H1 et1 hf1 okf l4 good s4 d1 x1 => ?_
  clear hp hl1 d0 x1
  walk_at "zz"
  refine ⟨rfl, rfl, ?_⟩
  rintro ok ds hds g dx hg hdx ne
  have h0 := cst0 hds
  subst h0
  show sp_Schema_init K c [.ref g, .int size, .str w, .str m, .ref f] _ _ _
  refine ⟨g, dx, f, size, w, m, fl, rfl, ok, upd_same, fun H' b => PairsA.same (b.out hg hdx) hf1.pairs, by omega, fun x hx => Nat.le_trans (okf.2 x hx).2.2 (by decide), fun _ H2 b2 sch => ?_, fun z => absurd good z⟩
  refine ⟨rfl, ?_⟩
  have s2 : Same H1 H2 := b2.out hg hdx
  have et := s2 _ _ et1
  have hf := hf1.same s2
  have d2 := d1.same s2
  clear b2 s2 et1 hf1 d1 hg hdx ne
  walk_at "zz"
  refine z_rng1 (by omega) ?_ (by omega)
  refine z_rng (fun i σ H' => ∃ (v4 v5 v6 v7 v8 v9 : Option V), σ = [some (.ref a), some (.ref p), some (.ref t), some (.ref g), v4, v5, v6, v7, v8, v9] ∧ Draw H' p l ∧ ExD H2 H') ⟨_, _, _, _, _, _, rfl, d2, ExD.refl _⟩ ?_ ?_
  · rintro turn σ H3 hturn ⟨v4, v5, v6, v7, v8, v9, rfl, d3, x3⟩
    exact r_turn et hf okf l4 good s4 sch d3 x3 fun v5 v6 v7 v8 v9 H' d x => ⟨_, v5, v6, v7, v8, v9, rfl, d, x⟩
  · rintro σ H3 ⟨v4, v5, v6, v7, v8, v9, rfl, d3, x3⟩
    walk_at "zz"
    exact q _
theorem w_law {K : PySem.W.Frag} {c : CEnv} : Wd (T_law K c) N_law 1 (sp_law K) := fun vs H Q E h => by
  obtain ⟨a, ns, rfl, hS, hl, q⟩ := h
  exact ⟨rfl, r_law hS hl q⟩
/-! ### the text by places, and its defs, each once -/
def topS (i : Nat) : Stmt := PySem.Challenge.pw_surenear_k06_records_of_a_schema.main.body.getD i (.Pass ⟨0, 0, 0, 0⟩)
section
variable {P : Program} {w : World} {K : PySem.W.Frag} {mg : Str → Option Value} {base : Heap} {c : CEnv}
abbrev s_law_row : Stmt := (topS 21)
theorem sc_law_row : FnScope N_law_row ["_law_script", "_law_k"] (defScope s_law_row) := ⟨rfl, rfl, rfl, by decide +kernel, rfl, by decide +kernel, by decide +kernel⟩
theorem ok_law_row (m_len : mg "len" = none) (m_int : mg "int" = none) {f : Addr} {fd : FuncData} (F : Fun K "_law_row" "_law_row" s_law_row f fd) : FnOk P w K mg base CX0 1 f fd ["_law_script", "_law_k"] (sp_law_row K) := by
  have sc := sc_law_row
  refine F.ok sc_law_row (fun vs H Q E h => ((w_law_row) vs H Q E h).1) (fun cdv A outer s H vs Q E hr h => ⟨T_law_row K, ?_, ((w_law_row) vs H Q E h).2⟩)
  exact (pss_cons (ps_set (i := 2) sc.nd rfl (by first | exact Or.inl rfl | exact Or.inr rfl) pe_int)
      (pss_cut (ps_if (pt_cmpR (op_uLt hr.units) (pv 1) (pe_callB call_uLen (by rfl) m_len (by decide +kernel) (pa_cons (pv 0) pa_nil)) (nomark _)) (pss_one (ps_set (i := 2) sc.nd rfl (by first | exact Or.inl rfl | exact Or.inr rfl) (pe_ix ix_uIx (pv 0) (pv 1) (fun _ _ => rfl)))) pss_nil)
      (pss_cut (ps_if (pt_cmpR (op_uLt hr.units) (pv 2) pe_int (nomark _)) (pss_one (ps_set (i := 2) sc.nd rfl (by first | exact Or.inl rfl | exact Or.inr rfl) (pe_op op_uSub (pe_op op_uMul (pe_un un_uNeg pe_int) (pv 2)) pe_int))) pss_nil)
      (pss_cut (ps_if (pt_cmpR (op_uLt hr.units) (pv 2) (pe_op op_uPow pe_int pe_int) (nomark _)) (pss_cons (ps_set (i := 3) sc.nd rfl (by first | exact Or.inl rfl | exact Or.inr rfl) (pe_op op_uMod (pe_callTy call_uInt (by rfl) m_int (by decide +kernel) (pa_cons (pe_op op_uAdd (pe_op op_uAdd (pe_op op_uMul (pv 2) pe_int) (pe_op op_uMul (pv 1) pe_int)) pe_int) pa_nil)) pe_int))
      (pss_cons (ps_set (i := 4) sc.nd rfl (by first | exact Or.inl rfl | exact Or.inr rfl) (pe_op op_uMod (pe_callTy call_uInt (by rfl) m_int (by decide +kernel) (pa_cons (pe_op op_uAdd (pe_op op_uAdd (pe_op op_uAdd (pe_op op_uMul (pv 3) pe_int) (pe_op op_uMul (pv 2) pe_int)) (pv 1)) pe_int) pa_nil)) pe_int))
      (pss_cons (ps_set (i := 5) sc.nd rfl (by first | exact Or.inl rfl | exact Or.inr rfl) (pe_op op_uMod (pe_callTy call_uInt (by rfl) m_int (by decide +kernel) (pa_cons (pe_op op_uAdd (pe_op op_uAdd (pe_op op_uMul (pv 4) pe_int) (pe_op op_uMul (pv 3) (pv 4))) pe_int) pa_nil)) pe_int))
      (pss_one (ps_set (i := 2) sc.nd rfl (by first | exact Or.inl rfl | exact Or.inr rfl) (pe_op op_uAdd (pe_op op_uAdd (pv 3) (pe_op op_uMul (pv 4) pe_int)) (pe_op op_uMul (pv 5) (pe_op op_uPow pe_int pe_int)))))))) pss_nil)
      (pss_one (ps_ret (pv 2)))))))
abbrev s_law_next : Stmt := (topS 22)
theorem sc_law_next : FnScope N_law_next ["_law_state", "_law_many"] (defScope s_law_next) := ⟨rfl, rfl, rfl, by decide +kernel, rfl, by decide +kernel, by decide +kernel⟩
theorem ok_law_next (D_law_row : Dfn P w K mg base 1 "_law_row" ["_law_script", "_law_k"] (sp_law_row K)) (m_int : mg "int" = none) {f : Addr} {fd : FuncData} (F : Fun K "_law_next" "_law_next" s_law_next f fd) : FnOk P w K mg base CX0 2 f fd ["_law_state", "_law_many"] (sp_law_next K) := by
  have sc := sc_law_next
  refine F.ok sc_law_next (fun vs H Q E h => ((w_law_next) vs H Q E h).1) (fun cdv A outer s H vs Q E hr h => ⟨T_law_next K, ?_, ((w_law_next) vs H Q E h).2⟩)
  exact (pss_cut (ps_if (pt_cmpR (op_uLt hr.units) (pe_ix ix_uIx (pv 0) pe_int (fun _ _ => rfl)) (pv 1) (nomark _)) (pss_cons (ps_asg (z_call D_law_row (hr.mono (by decide)) (by rfl) (pa_cons (pe_ix ix_uIx (pv 0) pe_int (fun _ _ => rfl)) (pa_cons (pe_ix ix_uIx (pv 0) pe_int (fun _ _ => rfl)) pa_nil))) (pg_sub (pv 0) pe_int set_list))
      (pss_one (ps_asg (pe_op op_uAdd (pe_ix ix_uIx (pv 0) pe_int (fun _ _ => rfl)) pe_int) (pg_sub (pv 0) pe_int set_list)))) pss_nil)
      (pss_cons (ps_set (i := 2) sc.nd rfl (by first | exact Or.inl rfl | exact Or.inr rfl) (pe_op op_uMod (pe_callTy call_uInt (by rfl) m_int (by decide +kernel) (pa_cons (pe_ix ix_uIx (pv 0) pe_int (fun _ _ => rfl)) pa_nil)) (pv 1)))
      (pss_cons (ps_asg (pe_op op_uDiv (pe_ix ix_uIx (pv 0) pe_int (fun _ _ => rfl)) (pv 1)) (pg_sub (pv 0) pe_int set_list))
      (pss_one (ps_ret (pv 2))))))
abbrev s_law_fields : Stmt := (topS 23)
theorem sc_law_fields : FnScope N_law_fields ["_law_state"] (defScope s_law_fields) := ⟨rfl, rfl, rfl, by decide +kernel, rfl, by decide +kernel, by decide +kernel⟩
theorem ok_law_fields (D_law_next : Dfn P w K mg base 2 "_law_next" ["_law_state", "_law_many"] (sp_law_next K)) (m_range : mg "range" = none) {f : Addr} {fd : FuncData} (F : Fun K "_law_fields" "_law_fields" s_law_fields f fd) : FnOk P w K mg base CX0 3 f fd ["_law_state"] (sp_law_fields K) := by
  have sc := sc_law_fields
  refine F.ok sc_law_fields (fun vs H Q E h => ((w_law_fields) vs H Q E h).1) (fun cdv A outer s H vs Q E hr h => ⟨T_law_fields K, ?_, ((w_law_fields) vs H Q E h).2⟩)
  exact (pss_cons (ps_set (i := 1) sc.nd rfl (by first | exact Or.inl rfl | exact Or.inr rfl) (pe_lst pa_nil))
      (pss_cons (ps_for PassesOwn.never rfl (pi_range1 (by rfl) m_range (pa_cons (z_call D_law_next (hr.mono (by decide)) (by rfl) (pa_cons (pv 0) (pa_cons pe_int pa_nil))) pa_nil)) (pg_name (i := 2) sc.nd rfl (by first | exact Or.inl rfl | exact Or.inr rfl)) (pss_cons (ps_set (i := 3) sc.nd rfl (by first | exact Or.inl rfl | exact Or.inr rfl) (pe_ix ix_uIx (pe_lst (pa_cons pe_str (pa_cons pe_str (pa_cons pe_str (pa_cons pe_str pa_nil))))) (pv 2) (fun _ _ => rfl)))
      (pss_one (ps_expr (pe_bm PySem.F.plainAttrs_list PySem.F.slot_list_append PySem.F.type_list_append mt_append (pv 1) (pa_cons (pe_tup (pa_cons (pv 3) (pa_cons (pe_ix ix_uIx (pe_lst (pa_cons pe_str (pa_cons pe_str (pa_cons pe_str pa_nil)))) (z_call D_law_next (hr.mono (by decide)) (by rfl) (pa_cons (pv 0) (pa_cons pe_int pa_nil))) (fun _ _ => rfl)) pa_nil))) pa_nil))))))
      (pss_one (ps_ret (pv 1)))))
abbrev s_law_schema : Stmt := (topS 24)
theorem sc_law_schema : FnScope N_law_schema ["_law_state"] (defScope s_law_schema) := ⟨rfl, rfl, rfl, by decide +kernel, rfl, by decide +kernel, by decide +kernel⟩
theorem ok_law_schema (D_law_next : Dfn P w K mg base 2 "_law_next" ["_law_state", "_law_many"] (sp_law_next K)) (D_law_fields : Dfn P w K mg base 3 "_law_fields" ["_law_state"] (sp_law_fields K)) {f : Addr} {fd : FuncData} (F : Fun K "_law_schema" "_law_schema" s_law_schema f fd) : FnOk P w K mg base CX0 4 f fd ["_law_state"] (sp_law_schema K) := by
  have sc := sc_law_schema
  refine F.ok sc_law_schema (fun vs H Q E h => ((w_law_schema) vs H Q E h).1) (fun cdv A outer s H vs Q E hr h => ⟨T_law_schema K, ?_, ((w_law_schema) vs H Q E h).2⟩)
  exact (pss_cons (ps_set (i := 1) sc.nd rfl (by first | exact Or.inl rfl | exact Or.inr rfl) (pe_ix ix_uIx (pe_lst (pa_cons pe_str (pa_cons pe_str (pa_cons pe_str pa_nil)))) (z_call D_law_next (hr.mono (by decide)) (by rfl) (pa_cons (pv 0) (pa_cons pe_int pa_nil))) (fun _ _ => rfl)))
      (pss_cons (ps_set (i := 2) sc.nd rfl (by first | exact Or.inl rfl | exact Or.inr rfl) (pe_ix ix_uIx (pe_lst (pa_cons pe_str (pa_cons pe_str (pa_cons pe_str pa_nil)))) (z_call D_law_next (hr.mono (by decide)) (by rfl) (pa_cons (pv 0) (pa_cons pe_int pa_nil))) (fun _ _ => rfl)))
      (pss_cut (ps_if (pt_cmpR (op_uEq hr.units) (pv 2) pe_str (nomark _)) (pss_one (ps_set (i := 1) sc.nd rfl (by first | exact Or.inl rfl | exact Or.inr rfl) pe_str)) pss_nil)
      (pss_one (ps_ret (pe_tup (pa_cons (pe_op op_uAdd pe_int (z_call D_law_next (hr.mono (by decide)) (by rfl) (pa_cons (pv 0) (pa_cons pe_int pa_nil)))) (pa_cons (pv 1) (pa_cons (pv 2) (pa_cons (z_call D_law_fields (hr.mono (by decide)) (by rfl) (pa_cons (pv 0) pa_nil)) pa_nil))))))))))
abbrev s_is_letter : Stmt := (topS 10)
theorem sc_is_letter : FnScope N_is_letter ["sign"] (defScope s_is_letter) := ⟨rfl, rfl, rfl, by decide +kernel, rfl, by decide +kernel, by decide +kernel⟩
theorem ok_is_letter {f : Addr} {fd : FuncData} (F : Fun K "is_letter" "is_letter" s_is_letter f fd) : FnOk P w K mg base CX0 1 f fd ["sign"] (sp_is_letter K) := by
  have sc := sc_is_letter
  refine F.ok sc_is_letter (fun vs H Q E h => ((w_is_letter) vs H Q E h).1) (fun cdv A outer s H vs Q E hr h => ⟨T_is_letter K, ?_, ((w_is_letter) vs H Q E h).2⟩)
  exact (pss_one (ps_ret (pe_or (pe_chain op_uLe op_uLe pe_str (pv 0) pe_str) (pe_or (pe_chain op_uLe op_uLe pe_str (pv 0) pe_str) (pe_one (pe_cmpR (op_uEq hr.units) (pv 0) pe_str (nomark _)))))))
abbrev s_is_digit : Stmt := (topS 11)
theorem sc_is_digit : FnScope N_is_digit ["sign"] (defScope s_is_digit) := ⟨rfl, rfl, rfl, by decide +kernel, rfl, by decide +kernel, by decide +kernel⟩
theorem ok_is_digit {f : Addr} {fd : FuncData} (F : Fun K "is_digit" "is_digit" s_is_digit f fd) : FnOk P w K mg base CX0 1 f fd ["sign"] (sp_is_digit K) := by
  have sc := sc_is_digit
  refine F.ok sc_is_digit (fun vs H Q E h => ((w_is_digit) vs H Q E h).1) (fun cdv A outer s H vs Q E hr h => ⟨T_is_digit K, ?_, ((w_is_digit) vs H Q E h).2⟩)
  exact (pss_one (ps_ret (pe_chain op_uLe op_uLe pe_str (pv 0) pe_str)))
abbrev s_is_field_name : Stmt := (topS 12)
theorem sc_is_field_name : FnScope N_is_field_name ["name"] (defScope s_is_field_name) := ⟨rfl, rfl, rfl, by decide +kernel, rfl, by decide +kernel, by decide +kernel⟩
theorem ok_is_field_name (D_is_letter : Dfn P w K mg base 1 "is_letter" ["sign"] (sp_is_letter K)) (D_is_digit : Dfn P w K mg base 1 "is_digit" ["sign"] (sp_is_digit K)) (g_WORDS : ∃ T, mg "WORDS" = some (.ref T) ∧ ∀ H, SqT K H T [.str "every", .str "has", .str "in", .str "and", .str "or", .str "not", .str "true", .str "false"]) {f : Addr} {fd : FuncData} (F : Fun K "is_field_name" "is_field_name" s_is_field_name f fd) : FnOk P w K mg base CX0 2 f fd ["name"] (sp_is_field_name K) := by
  have sc := sc_is_field_name
  refine F.ok sc_is_field_name (fun vs H Q E h => ((w_is_field_name) vs H Q E h).1) (fun cdv A outer s H vs Q E hr h => ⟨T_is_field_name K, ?_, ((w_is_field_name) vs H Q E h).2⟩)
  exact (pss_cons (ps_if (PW.pt (pw_or (pt_cmpR (op_uEq hr.units) (pv 0) pe_str (nomark _)) (pw_or (pt_not (pt_u (z_call D_is_letter (hr.mono (by decide)) (by rfl) (pa_cons (pe_ix ix_uIx (pv 0) pe_int (fun _ _ => rfl)) pa_nil)))) (pw_or1 (pt_cmpR op_uIn (pv 0) (z_gtup g_WORDS (by rfl)) (by rfl)))))) (pss_one (ps_ret pe_bl)) pss_nil)
      (pss_cons (ps_for PassesOwn.never rfl (pi_str (pv 0)) (pg_name (i := 1) sc.nd rfl (by first | exact Or.inl rfl | exact Or.inr rfl)) (pss_one (ps_if (PW.pt (pw_and (pt_not (pt_u (z_call D_is_letter (hr.mono (by decide)) (by rfl) (pa_cons (pv 1) pa_nil)))) (pw_and1 (pt_not (pt_u (z_call D_is_digit (hr.mono (by decide)) (by rfl) (pa_cons (pv 1) pa_nil))))))) (pss_one (ps_ret pe_bl)) pss_nil)))
      (pss_one (ps_ret pe_bl))))
abbrev s_Schema_init : Stmt := (inClass (topS 15) 0)
theorem sc_Schema_init : FnScope N_Schema_init ["self", "size", "width", "measure", "fields"] (defScope s_Schema_init) := ⟨rfl, rfl, rfl, by decide +kernel, rfl, by decide +kernel, by decide +kernel⟩
theorem ok_Schema_init (E_InvalidSchema : ExcF K mg c "InvalidSchema") (D_is_field_name : Dfn P w K mg base 2 "is_field_name" ["name"] (sp_is_field_name K)) (m_tuple : mg "tuple" = none) (g_RANGES : KD K w mg "RANGES" [("bit", .t [.int 0, .int 1]), ("small", .t [.int (-128), .int 127]), ("wide", .t [.int (-32768), .int 32767])]) (g_MEASURES : ∃ T, mg "MEASURES" = some (.ref T) ∧ ∀ H, SqT K H T [.str "square", .str "dot", .str "bits"]) (g_KINDS : ∃ T, mg "KINDS" = some (.ref T) ∧ ∀ H, SqT K H T [.str "integer", .str "text", .str "flag"]) {f : Addr} {fd : FuncData} (F : Fun K "__init__" "Schema.__init__" s_Schema_init f fd) : FnOk P w K mg base (L2.CX P w) 3 f fd ["self", "size", "width", "measure", "fields"] (sp_Schema_init K c) := by
  have sc := sc_Schema_init
  refine F.okX sc_Schema_init (fun vs H Q E h => ((w_Schema_init (c := c)) vs H Q E h).1) (fun cdv A outer s H vs Q E hr h => ⟨T_Schema_init K c (fun cls d _ H => E cls d H), ?_, ((w_Schema_init (c := c)) vs H Q E h).2⟩)
  exact (pss_cons (ps_if (PW.pt (pw_or (pt_cmpR (op_uLt hr.units) (pv 1) pe_int (nomark _)) (pw_or (z_koutP g_RANGES (pv 2) (by rfl)) (pw_or1 (pt_cmpR op_uNotIn (pv 3) (z_gtup g_MEASURES (by rfl)) (by rfl)))))) (pss_one (z_raise rfl E_InvalidSchema (takes_of rfl rfl rfl rfl) (by rfl))) pss_nil)
      (pss_cons (ps_if (PW.pt (pw_and (pt_cmpR (op_uEq hr.units) (pv 3) pe_str (nomark _)) (pw_and1 (pt_cmpR (op_uNe hr.units) (pv 2) pe_str (nomark _))))) (pss_one (z_raise rfl E_InvalidSchema (takes_of rfl rfl rfl rfl) (by rfl))) pss_nil)
      (pss_cons (ps_set (i := 5) sc.nd rfl (by first | exact Or.inl rfl | exact Or.inr rfl) (pe_lst pa_nil))
      (pss_cons (ps_for (passes_of rfl) rfl (pi_sq (pv 4)) (pg_tup rfl (pgs_cons (pg_name (i := 6) sc.nd rfl (by first | exact Or.inl rfl | exact Or.inr rfl)) (pgs_cons (pg_name (i := 7) sc.nd rfl (by first | exact Or.inl rfl | exact Or.inr rfl)) pgs_nil))) (pss_cons (ps_if (PW.pt (pw_or (pt_cmpR op_uNotIn (pv 7) (z_gtup g_KINDS (by rfl)) (by rfl)) (pw_or (pt_not (pt_u (z_call D_is_field_name (hr.mono (by decide)) (by rfl) (pa_cons (pv 6) pa_nil)))) (pw_or1 (pt_cmpR op_uIn (pv 6) (pv 5) (by rfl)))))) (pss_one (z_raise rfl E_InvalidSchema (takes_of rfl rfl rfl rfl) (by rfl))) pss_nil)
      (pss_one (ps_expr (pe_bm PySem.F.plainAttrs_list PySem.F.slot_list_append PySem.F.type_list_append mt_append (pv 5) (pa_cons (pv 6) pa_nil))))))
      (pss_cons (ps_fld (pv 0) (pv 1) rfl)
      (pss_cons (ps_fld (pv 0) (pv 2) rfl)
      (pss_cons (ps_fld (pv 0) (pv 3) rfl)
      (pss_one (ps_fld (pv 0) (pe_callTy call_uTuple (by rfl) m_tuple (by decide +kernel) (pa_cons (pe_lc (own := [("name", 6), ("kind", 7)]) (g := (gTup K 2 (gCons (gName 6) (gCons (gName 7) gNil)))) (tt := tYes) rfl sc.nd (pi_sq (pv 4)) (blkOk_by (N := N_Schema_init) (sc := defScope s_Schema_init) (by decide +kernel)) (fun _ _ _ _ _ => (pg_tup rfl (pgs_cons (pg_name (i := 6) sc.nd rfl (by first | exact Or.inl rfl | exact Or.inr rfl)) (pgs_cons (pg_name (i := 7) sc.nd rfl (by first | exact Or.inl rfl | exact Or.inr rfl)) pgs_nil)))) (fun _ _ _ _ _ => pts_nil) (fun _ _ _ _ _ => (pe_tup (pa_cons (pv 6) (pa_cons (pv 7) pa_nil))))) pa_nil)) rfl)))))))))
abbrev s_law_number : Stmt := (topS 25)
theorem sc_law_number : FnScope N_law_number ["_law_state", "_law_width"] (defScope s_law_number) := ⟨rfl, rfl, rfl, by decide +kernel, rfl, by decide +kernel, by decide +kernel⟩
theorem ok_law_number (D_law_next : Dfn P w K mg base 2 "_law_next" ["_law_state", "_law_many"] (sp_law_next K)) (m_max : mg "max" = none) (m_min : mg "min" = none) {f : Addr} {fd : FuncData} (F : Fun K "_law_number" "_law_number" s_law_number f fd) : FnOk P w K mg base CX0 3 f fd ["_law_state", "_law_width"] (sp_law_number K) := by
  have sc := sc_law_number
  refine F.ok sc_law_number (fun vs H Q E h => ((w_law_number) vs H Q E h).1) (fun cdv A outer s H vs Q E hr h => ⟨T_law_number K, ?_, ((w_law_number) vs H Q E h).2⟩)
  exact (pss_cons (ps_set (i := 2) sc.nd rfl (by first | exact Or.inl rfl | exact Or.inr rfl) (pe_ix ix_uIx (pe_lst (pa_cons pe_int (pa_cons (pe_un un_uNeg pe_int) (pa_cons (pe_un un_uNeg pe_int) pa_nil)))) (pe_bm PySem.F.plainAttrs_list PySem.F.slot_list_index PySem.F.type_list_index mt_index (pe_lst (pa_cons pe_str (pa_cons pe_str (pa_cons pe_str pa_nil)))) (pa_cons (pv 1) pa_nil)) (fun _ _ => rfl)))
      (pss_cons (ps_set (i := 3) sc.nd rfl (by first | exact Or.inl rfl | exact Or.inr rfl) (pe_ix ix_uIx (pe_lst (pa_cons pe_int (pa_cons pe_int (pa_cons pe_int pa_nil)))) (pe_bm PySem.F.plainAttrs_list PySem.F.slot_list_index PySem.F.type_list_index mt_index (pe_lst (pa_cons pe_str (pa_cons pe_str (pa_cons pe_str pa_nil)))) (pa_cons (pv 1) pa_nil)) (fun _ _ => rfl)))
      (pss_cons (ps_if (pt_cmpR (op_uEq hr.units) (z_call D_law_next (hr.mono (by decide)) (by rfl) (pa_cons (pv 0) (pa_cons pe_int pa_nil))) pe_int (nomark _)) (pss_one (ps_ret (pe_ix ix_uIx (pe_lst (pa_cons (pv 2) (pa_cons (pv 3) pa_nil))) (z_call D_law_next (hr.mono (by decide)) (by rfl) (pa_cons (pv 0) (pa_cons pe_int pa_nil))) (fun _ _ => rfl)))) pss_nil)
      (pss_cons (ps_set (i := 4) sc.nd rfl (by first | exact Or.inl rfl | exact Or.inr rfl) (pe_ix ix_uIx (pe_lst (pa_cons pe_int (pa_cons pe_int (pa_cons (pe_op op_uSub (pv 3) (pv 2)) pa_nil)))) (z_call D_law_next (hr.mono (by decide)) (by rfl) (pa_cons (pv 0) (pa_cons pe_int pa_nil))) (fun _ _ => rfl)))
      (pss_one (ps_ret (pe_ifExp (pt_cmpR (op_uEq hr.units) (z_call D_law_next (hr.mono (by decide)) (by rfl) (pa_cons (pv 0) (pa_cons pe_int pa_nil))) pe_int (nomark _)) (pe_callB (call_uMin rfl) (by rfl) m_min (by decide +kernel) (pa_cons (pv 3) (pa_cons (pe_op op_uAdd (pe_callB (call_uMax rfl) (by rfl) m_max (by decide +kernel) (pa_cons (pv 2) (pa_cons pe_int pa_nil))) (z_call D_law_next (hr.mono (by decide)) (by rfl) (pa_cons (pv 0) (pa_cons (pe_op op_uAdd (pv 4) pe_int) pa_nil)))) pa_nil))) (pe_callB (call_uMax rfl) (by rfl) m_max (by decide +kernel) (pa_cons (pv 2) (pa_cons (pe_un un_uNeg (z_call D_law_next (hr.mono (by decide)) (by rfl) (pa_cons (pv 0) (pa_cons (pe_op op_uAdd (pv 4) pe_int) pa_nil)))) pa_nil))))))))))
abbrev s_law_words : Stmt := (topS 28)
theorem sc_law_words : FnScope N_law_words ["_law_state"] (defScope s_law_words) := ⟨rfl, rfl, rfl, by decide +kernel, rfl, by decide +kernel, by decide +kernel⟩
theorem ok_law_words (D_law_next : Dfn P w K mg base 2 "_law_next" ["_law_state", "_law_many"] (sp_law_next K)) {f : Addr} {fd : FuncData} (F : Fun K "_law_words" "_law_words" s_law_words f fd) : FnOk P w K mg base CX0 3 f fd ["_law_state"] (sp_law_words K) := by
  have sc := sc_law_words
  refine F.ok sc_law_words (fun vs H Q E h => ((w_law_words) vs H Q E h).1) (fun cdv A outer s H vs Q E hr h => ⟨T_law_words K, ?_, ((w_law_words) vs H Q E h).2⟩)
  exact (pss_cons (ps_set (i := 1) sc.nd rfl (by first | exact Or.inl rfl | exact Or.inr rfl) (pe_lst pa_nil))
      (pss_cons (ps_for PassesOwn.never rfl (pi_sq (pe_lst (pa_cons pe_str (pa_cons pe_str (pa_cons pe_str (pa_cons pe_str pa_nil)))))) (pg_name (i := 2) sc.nd rfl (by first | exact Or.inl rfl | exact Or.inr rfl)) (pss_one (ps_if (pt_cmpR (op_uEq hr.units) (z_call D_law_next (hr.mono (by decide)) (by rfl) (pa_cons (pv 0) (pa_cons pe_int pa_nil))) pe_int (nomark _)) (pss_one (ps_expr (pe_bm PySem.F.plainAttrs_list PySem.F.slot_list_append PySem.F.type_list_append mt_append (pv 1) (pa_cons (pe_tup (pa_cons (pv 2) (pa_cons (pe_op op_uAdd pe_int (pe_op op_uMul (z_call D_law_next (hr.mono (by decide)) (by rfl) (pa_cons (pv 0) (pa_cons pe_int pa_nil))) (z_call D_law_next (hr.mono (by decide)) (by rfl) (pa_cons (pv 0) (pa_cons pe_int pa_nil))))) pa_nil))) pa_nil)))) pss_nil)))
      (pss_one (ps_ret (pv 1)))))
abbrev s_law_value : Stmt := (topS 26)
theorem sc_law_value : FnScope N_law_value ["_law_state", "_law_kind_here"] (defScope s_law_value) := ⟨rfl, rfl, rfl, by decide +kernel, rfl, by decide +kernel, by decide +kernel⟩
theorem ok_law_value (D_law_next : Dfn P w K mg base 2 "_law_next" ["_law_state", "_law_many"] (sp_law_next K)) {f : Addr} {fd : FuncData} (F : Fun K "_law_value" "_law_value" s_law_value f fd) : FnOk P w K mg base CX0 3 f fd ["_law_state", "_law_kind_here"] (sp_law_value K) := by
  have sc := sc_law_value
  refine F.ok sc_law_value (fun vs H Q E h => ((w_law_value) vs H Q E h).1) (fun cdv A outer s H vs Q E hr h => ⟨T_law_value K, ?_, ((w_law_value) vs H Q E h).2⟩)
  exact (pss_cons (ps_if (pt_cmpR (op_uEq hr.units) (pv 1) pe_str (nomark _)) (pss_one (ps_ret (pe_cmpR (op_uEq hr.units) (z_call D_law_next (hr.mono (by decide)) (by rfl) (pa_cons (pv 0) (pa_cons pe_int pa_nil))) pe_int (nomark _)))) pss_nil)
      (pss_cons (ps_if (pt_cmpR (op_uEq hr.units) (pv 1) pe_str (nomark _)) (pss_one (ps_ret (pe_ix ix_uIx (pe_lst (pa_cons pe_str (pa_cons pe_str (pa_cons pe_str (pa_cons pe_str (pa_cons pe_str pa_nil)))))) (z_call D_law_next (hr.mono (by decide)) (by rfl) (pa_cons (pv 0) (pa_cons pe_int pa_nil))) (fun _ _ => rfl)))) pss_nil)
      (pss_one (ps_ret (pe_op op_uMul (pe_ix ix_uIx (pe_lst (pa_cons pe_int (pa_cons pe_int (pa_cons (pe_un un_uNeg pe_int) (pa_cons pe_int (pa_cons (pe_op op_uPow pe_int pe_int) pa_nil)))))) (z_call D_law_next (hr.mono (by decide)) (by rfl) (pa_cons (pv 0) (pa_cons pe_int pa_nil))) (fun _ _ => rfl)) (pe_op op_uAdd pe_int (z_call D_law_next (hr.mono (by decide)) (by rfl) (pa_cons (pv 0) (pa_cons pe_int pa_nil)))))))))
abbrev s_law_pairs : Stmt := (topS 27)
theorem sc_law_pairs : FnScope N_law_pairs ["_law_state", "_law_fields_here"] (defScope s_law_pairs) := ⟨rfl, rfl, rfl, by decide +kernel, rfl, by decide +kernel, by decide +kernel⟩
theorem ok_law_pairs (D_law_next : Dfn P w K mg base 2 "_law_next" ["_law_state", "_law_many"] (sp_law_next K)) (D_law_value : Dfn P w K mg base 3 "_law_value" ["_law_state", "_law_kind_here"] (sp_law_value K)) {f : Addr} {fd : FuncData} (F : Fun K "_law_pairs" "_law_pairs" s_law_pairs f fd) : FnOk P w K mg base CX0 4 f fd ["_law_state", "_law_fields_here"] (sp_law_pairs K) := by
  have sc := sc_law_pairs
  refine F.ok sc_law_pairs (fun vs H Q E h => ((w_law_pairs) vs H Q E h).1) (fun cdv A outer s H vs Q E hr h => ⟨T_law_pairs K, ?_, ((w_law_pairs) vs H Q E h).2⟩)
  exact (pss_cons (ps_set (i := 2) sc.nd rfl (by first | exact Or.inl rfl | exact Or.inr rfl) (pe_lst pa_nil))
      (pss_cons (ps_for PassesOwn.never rfl (pi_sq (pv 1)) (pg_tup rfl (pgs_cons (pg_name (i := 3) sc.nd rfl (by first | exact Or.inl rfl | exact Or.inr rfl)) (pgs_cons (pg_name (i := 4) sc.nd rfl (by first | exact Or.inl rfl | exact Or.inr rfl)) pgs_nil))) (pss_one (ps_if (pt_cmpR op_uGt (z_call D_law_next (hr.mono (by decide)) (by rfl) (pa_cons (pv 0) (pa_cons pe_int pa_nil))) pe_int (nomark _)) (pss_one (ps_expr (pe_bm PySem.F.plainAttrs_list PySem.F.slot_list_append PySem.F.type_list_append mt_append (pv 2) (pa_cons (pe_tup (pa_cons (pv 3) (pa_cons (z_call D_law_value (hr.mono (by decide)) (by rfl) (pa_cons (pv 0) (pa_cons (pv 4) pa_nil))) pa_nil))) pa_nil)))) pss_nil)))
      (pss_one (ps_ret (pv 2)))))
abbrev s_law_name : Stmt := (topS 29)
theorem sc_law_name : FnScope N_law_name ["_law_state"] (defScope s_law_name) := ⟨rfl, rfl, rfl, by decide +kernel, rfl, by decide +kernel, by decide +kernel⟩
theorem ok_law_name (D_law_next : Dfn P w K mg base 2 "_law_next" ["_law_state", "_law_many"] (sp_law_next K)) {f : Addr} {fd : FuncData} (F : Fun K "_law_name" "_law_name" s_law_name f fd) : FnOk P w K mg base CX0 3 f fd ["_law_state"] (sp_law_name K) := by
  have sc := sc_law_name
  refine F.ok sc_law_name (fun vs H Q E h => ((w_law_name) vs H Q E h).1) (fun cdv A outer s H vs Q E hr h => ⟨T_law_name K, ?_, ((w_law_name) vs H Q E h).2⟩)
  exact (pss_one (ps_ret (pe_ix ix_uIx (pe_lst (pa_cons pe_str (pa_cons pe_str (pa_cons pe_str (pa_cons pe_str (pa_cons pe_str (pa_cons pe_str pa_nil))))))) (z_call D_law_next (hr.mono (by decide)) (by rfl) (pa_cons (pv 0) (pa_cons pe_int pa_nil))) (fun _ _ => rfl))))
abbrev s_law_change : Stmt := (topS 32)
theorem sc_law_change : FnScope N_law_change ["_law_state", "_law_drawn", "_law_thing"] (defScope s_law_change) := ⟨rfl, rfl, rfl, by decide +kernel, rfl, by decide +kernel, by decide +kernel⟩
theorem ok_law_change (D_law_next : Dfn P w K mg base 2 "_law_next" ["_law_state", "_law_many"] (sp_law_next K)) (m_len : mg "len" = none) (m_range : mg "range" = none) {f : Addr} {fd : FuncData} (F : Fun K "_law_change" "_law_change" s_law_change f fd) : FnOk P w K mg base CX0 3 f fd ["_law_state", "_law_drawn", "_law_thing"] (sp_law_change K) := by
  have sc := sc_law_change
  refine F.ok sc_law_change (fun vs H Q E h => ((w_law_change) vs H Q E h).1) (fun cdv A outer s H vs Q E hr h => ⟨T_law_change K, ?_, ((w_law_change) vs H Q E h).2⟩)
  exact (pss_cons (ps_asg (pv 2) (pg_tup rfl (pgs_cons (pg_name (i := 3) sc.nd rfl (by first | exact Or.inl rfl | exact Or.inr rfl)) (pgs_cons (pg_name (i := 4) sc.nd rfl (by first | exact Or.inl rfl | exact Or.inr rfl)) (pgs_cons (pg_name (i := 5) sc.nd rfl (by first | exact Or.inl rfl | exact Or.inr rfl)) (pgs_cons (pg_name (i := 6) sc.nd rfl (by first | exact Or.inl rfl | exact Or.inr rfl)) pgs_nil))))))
      (pss_cons (ps_set (i := 7) sc.nd rfl (by first | exact Or.inl rfl | exact Or.inr rfl) (z_call D_law_next (hr.mono (by decide)) (by rfl) (pa_cons (pv 0) (pa_cons pe_int pa_nil))))
      (pss_cons (ps_set (i := 8) sc.nd rfl (by first | exact Or.inl rfl | exact Or.inr rfl) (pe_bm PySem.F.plainAttrs_list PySem.F.slot_list_index PySem.F.type_list_index mt_index (pe_lst (pa_cons pe_str (pa_cons pe_str (pa_cons pe_str pa_nil)))) (pa_cons (pe_ix ix_uIx (pv 1) pe_int (fun _ _ => rfl)) pa_nil)))
      (pss_cut (ps_if (pt_cmpR (op_uEq hr.units) (pv 7) pe_int (nomark _)) (pss_one (ps_set (i := 3) sc.nd rfl (by first | exact Or.inl rfl | exact Or.inr rfl) pe_str)) pss_nil)
      (pss_cut (ps_if (pt_cmpR (op_uEq hr.units) (pv 7) pe_int (nomark _)) (pss_one (ps_set (i := 4) sc.nd rfl (by first | exact Or.inl rfl | exact Or.inr rfl) (pe_op op_uAdd (pv 4) (pe_lst (pa_cons pe_int pa_nil))))) pss_nil)
      (pss_cut (ps_if (pt_cmpR (op_uEq hr.units) (pv 7) pe_int (nomark _)) (pss_one (ps_set (i := 4) sc.nd rfl (by first | exact Or.inl rfl | exact Or.inr rfl) (pe_slice sl_uSl (pv 4) (po_some pe_int) po_none))) pss_nil)
      (pss_cut (ps_if (pt_cmpR (op_uEq hr.units) (pv 7) pe_int (nomark _)) (pss_one (ps_set (i := 4) sc.nd rfl (by first | exact Or.inl rfl | exact Or.inr rfl) (pe_op op_uAdd (pe_slice sl_uSl (pv 4) (po_some pe_int) po_none) (pe_lst (pa_cons (pe_ix ix_uIx (pe_lst (pa_cons pe_int (pa_cons pe_int (pa_cons pe_int pa_nil)))) (pv 8) (fun _ _ => rfl)) pa_nil))))) pss_nil)
      (pss_cut (ps_if (pt_cmpR (op_uEq hr.units) (pv 7) pe_int (nomark _)) (pss_one (ps_set (i := 4) sc.nd rfl (by first | exact Or.inl rfl | exact Or.inr rfl) (pe_op op_uAdd (pe_lst (pa_cons (pe_ix ix_uIx (pe_lst (pa_cons (pe_un un_uNeg pe_int) (pa_cons (pe_un un_uNeg pe_int) (pa_cons (pe_un un_uNeg pe_int) pa_nil)))) (pv 8) (fun _ _ => rfl)) pa_nil)) (pe_slice sl_uSl (pv 4) (po_some pe_int) po_none)))) pss_nil)
      (pss_cut (ps_if (pt_cmpR (op_uEq hr.units) (pv 7) pe_int (nomark _)) (pss_one (ps_set (i := 5) sc.nd rfl (by first | exact Or.inl rfl | exact Or.inr rfl) (pe_op op_uAdd (pv 5) (pe_lst (pa_cons (pe_tup (pa_cons pe_str (pa_cons pe_int pa_nil))) pa_nil))))) pss_nil)
      (pss_cut (ps_if (pt_cmpR (op_uEq hr.units) (pv 7) pe_int (nomark _)) (pss_one (ps_set (i := 5) sc.nd rfl (by first | exact Or.inl rfl | exact Or.inr rfl) (pe_op op_uAdd (pv 5) (pe_slice sl_uSl (pv 5) po_none (po_some pe_int))))) pss_nil)
      (pss_cut (ps_if (pt_cmpR (op_uEq hr.units) (pv 7) pe_int (nomark _)) (pss_one (by first | exact (ps_setLc (i := 5) (own := [("_law_field", 9), ("_law_worth", 10)]) (g := (gTup K 2 (gCons (gName 9) (gCons (gName 10) gNil)))) (tt := tYes) rfl sc.nd rfl rfl (sw_true rfl rfl rfl (by decide +kernel)) (pi_sq (pv 5)) (blkOk_by (N := N_law_change) (sc := defScope s_law_change) (by decide +kernel)) (fun _ _ _ _ _ => (pg_tup rfl (pgs_cons (pg_name (i := 9) sc.nd rfl (by first | exact Or.inl rfl | exact Or.inr rfl)) (pgs_cons (pg_name (i := 10) sc.nd rfl (by first | exact Or.inl rfl | exact Or.inr rfl)) pgs_nil)))) (fun _ _ _ _ _ => pts_nil) (fun _ _ _ _ _ => (pe_tup (pa_cons (pv 9) (pa_cons (pe_ix ix_uIx (pe_lst (pa_cons pe_bl (pa_cons pe_str (pa_cons pe_int pa_nil)))) (z_call D_law_next (hr.mono (by decide)) (by rfl) (pa_cons (pv 0) (pa_cons pe_int pa_nil))) (fun _ _ => rfl)) pa_nil))))) | exact (ps_set (i := 5) sc.nd rfl (Or.inr rfl) (pe_lc (own := [("_law_field", 9), ("_law_worth", 10)]) (g := (gTup K 2 (gCons (gName 9) (gCons (gName 10) gNil)))) (tt := tYes) rfl sc.nd (pi_sq (pv 5)) (blkOk_by (N := N_law_change) (sc := defScope s_law_change) (by decide +kernel)) (fun _ _ _ _ _ => (pg_tup rfl (pgs_cons (pg_name (i := 9) sc.nd rfl (by first | exact Or.inl rfl | exact Or.inr rfl)) (pgs_cons (pg_name (i := 10) sc.nd rfl (by first | exact Or.inl rfl | exact Or.inr rfl)) pgs_nil)))) (fun _ _ _ _ _ => pts_nil) (fun _ _ _ _ _ => (pe_tup (pa_cons (pv 9) (pa_cons (pe_ix ix_uIx (pe_lst (pa_cons pe_bl (pa_cons pe_str (pa_cons pe_int pa_nil)))) (z_call D_law_next (hr.mono (by decide)) (by rfl) (pa_cons (pv 0) (pa_cons pe_int pa_nil))) (fun _ _ => rfl)) pa_nil)))))))) pss_nil)
      (pss_cut (ps_if (pt_cmpR (op_uEq hr.units) (pv 7) pe_int (nomark _)) (pss_one (ps_set (i := 6) sc.nd rfl (by first | exact Or.inl rfl | exact Or.inr rfl) (pe_op op_uAdd (pv 6) (pe_slice sl_uSl (pv 6) po_none (po_some pe_int))))) pss_nil)
      (pss_cut (ps_if (pt_cmpR (op_uEq hr.units) (pv 7) pe_int (nomark _)) (pss_one (ps_set (i := 6) sc.nd rfl (by first | exact Or.inl rfl | exact Or.inr rfl) (pe_op op_uAdd (pe_lst (pa_cons (pe_tup (pa_cons pe_str (pa_cons pe_int pa_nil))) pa_nil)) (pv 6)))) pss_nil)
      (pss_cut (ps_if (pt_cmpR (op_uEq hr.units) (pv 7) pe_int (nomark _)) (pss_one (ps_set (i := 6) sc.nd rfl (by first | exact Or.inl rfl | exact Or.inr rfl) (pe_op op_uAdd (pv 6) (pe_lst (pa_cons (pe_tup (pa_cons pe_str (pa_cons (z_call D_law_next (hr.mono (by decide)) (by rfl) (pa_cons (pv 0) (pa_cons pe_int pa_nil))) pa_nil))) pa_nil))))) pss_nil)
      (pss_cut (ps_if (pt_cmpR (op_uEq hr.units) (pv 7) pe_int (nomark _)) (pss_one (by first | exact (ps_setLc (i := 5) (own := [("_law_k", 11)]) (g := (gName 11)) (tt := tYes) rfl sc.nd rfl rfl (sw_true rfl rfl rfl (by decide +kernel)) (pi_range1 (by rfl) m_range (pa_cons (pe_callB call_uLen (by rfl) m_len (by decide +kernel) (pa_cons (pv 5) pa_nil)) pa_nil)) (blkOk_by (N := N_law_change) (sc := defScope s_law_change) (by decide +kernel)) (fun _ _ _ _ _ => (pg_name (i := 11) sc.nd rfl (by first | exact Or.inl rfl | exact Or.inr rfl))) (fun _ _ _ _ _ => pts_nil) (fun _ _ _ _ _ => (pe_ix ix_uIx (pv 5) (pe_op op_uSub (pe_op op_uSub (pe_callB call_uLen (by rfl) m_len (by decide +kernel) (pa_cons (pv 5) pa_nil)) pe_int) (pv 11)) (fun _ _ => rfl)))) | exact (ps_set (i := 5) sc.nd rfl (Or.inr rfl) (pe_lc (own := [("_law_k", 11)]) (g := (gName 11)) (tt := tYes) rfl sc.nd (pi_range1 (by rfl) m_range (pa_cons (pe_callB call_uLen (by rfl) m_len (by decide +kernel) (pa_cons (pv 5) pa_nil)) pa_nil)) (blkOk_by (N := N_law_change) (sc := defScope s_law_change) (by decide +kernel)) (fun _ _ _ _ _ => (pg_name (i := 11) sc.nd rfl (by first | exact Or.inl rfl | exact Or.inr rfl))) (fun _ _ _ _ _ => pts_nil) (fun _ _ _ _ _ => (pe_ix ix_uIx (pv 5) (pe_op op_uSub (pe_op op_uSub (pe_callB call_uLen (by rfl) m_len (by decide +kernel) (pa_cons (pv 5) pa_nil)) pe_int) (pv 11)) (fun _ _ => rfl))))))) pss_nil)
      (pss_one (ps_ret (pe_tup (pa_cons (pv 3) (pa_cons (pv 4) (pa_cons (pv 5) (pa_cons (pv 6) pa_nil))))))))))))))))))))))
abbrev s_Record_init : Stmt := (inClass (topS 19) 0)
theorem sc_Record_init : FnScope N_Record_init ["self", "name", "vector", "fields", "words"] (defScope s_Record_init) := ⟨rfl, rfl, rfl, by decide +kernel, rfl, by decide +kernel, by decide +kernel⟩
theorem ok_Record_init (m_tuple : mg "tuple" = none) {f : Addr} {fd : FuncData} (F : Fun K "__init__" "Record.__init__" s_Record_init f fd) : FnOk P w K mg base CX0 1 f fd ["self", "name", "vector", "fields", "words"] (sp_Record_init K c) := by
  have sc := sc_Record_init
  refine F.ok sc_Record_init (fun vs H Q E h => ((w_Record_init (c := c)) vs H Q E h).1) (fun cdv A outer s H vs Q E hr h => ⟨T_Record_init K, ?_, ((w_Record_init (c := c)) vs H Q E h).2⟩)
  exact (pss_cons (ps_fld (pv 0) (pv 1) rfl)
      (pss_cons (ps_fld (pv 0) (pe_callTy call_uTuple (by rfl) m_tuple (by decide +kernel) (pa_cons (pv 2) pa_nil)) rfl)
      (pss_cons (ps_fld (pv 0) (pe_callTy call_uTuple (by rfl) m_tuple (by decide +kernel) (pa_cons (pe_lc (own := [("field", 5), ("worth", 6)]) (g := (gTup K 2 (gCons (gName 5) (gCons (gName 6) gNil)))) (tt := tYes) rfl sc.nd (pi_sq (pv 3)) (blkOk_by (N := N_Record_init) (sc := defScope s_Record_init) (by decide +kernel)) (fun _ _ _ _ _ => (pg_tup rfl (pgs_cons (pg_name (i := 5) sc.nd rfl (by first | exact Or.inl rfl | exact Or.inr rfl)) (pgs_cons (pg_name (i := 6) sc.nd rfl (by first | exact Or.inl rfl | exact Or.inr rfl)) pgs_nil)))) (fun _ _ _ _ _ => pts_nil) (fun _ _ _ _ _ => (pe_tup (pa_cons (pv 5) (pa_cons (pv 6) pa_nil))))) pa_nil)) rfl)
      (pss_one (ps_fld (pv 0) (pe_callTy call_uTuple (by rfl) m_tuple (by decide +kernel) (pa_cons (pe_lc (own := [("word", 7), ("count", 8)]) (g := (gTup K 2 (gCons (gName 7) (gCons (gName 8) gNil)))) (tt := tYes) rfl sc.nd (pi_sq (pv 4)) (blkOk_by (N := N_Record_init) (sc := defScope s_Record_init) (by decide +kernel)) (fun _ _ _ _ _ => (pg_tup rfl (pgs_cons (pg_name (i := 7) sc.nd rfl (by first | exact Or.inl rfl | exact Or.inr rfl)) (pgs_cons (pg_name (i := 8) sc.nd rfl (by first | exact Or.inl rfl | exact Or.inr rfl)) pgs_nil)))) (fun _ _ _ _ _ => pts_nil) (fun _ _ _ _ _ => (pe_tup (pa_cons (pv 7) (pa_cons (pv 8) pa_nil))))) pa_nil)) rfl)))))
abbrev s_law_kind : Stmt := (topS 30)
theorem sc_law_kind : FnScope N_law_kind ["_law_worth"] (defScope s_law_kind) := ⟨rfl, rfl, rfl, by decide +kernel, rfl, by decide +kernel, by decide +kernel⟩
theorem ok_law_kind (m_bool : mg "bool" = none) (m_isinstance : mg "isinstance" = none) (m_str : mg "str" = none) {f : Addr} {fd : FuncData} (F : Fun K "_law_kind" "_law_kind" s_law_kind f fd) : FnOk P w K mg base CX0 1 f fd ["_law_worth"] (sp_law_kind K) := by
  have sc := sc_law_kind
  refine F.ok sc_law_kind (fun vs H Q E h => ((w_law_kind) vs H Q E h).1) (fun cdv A outer s H vs Q E hr h => ⟨T_law_kind K, ?_, ((w_law_kind) vs H Q E h).2⟩)
  exact (pss_cons (ps_if (pt_u (pe_callB call_uIsi (by rfl) m_isinstance (by decide +kernel) (pa_cons (pv 0) (pa_cons (pe_bltn (by rfl) m_bool (by decide +kernel) rfl) pa_nil)))) (pss_one (ps_ret pe_str)) pss_nil)
      (pss_cons (ps_if (pt_u (pe_callB call_uIsi (by rfl) m_isinstance (by decide +kernel) (pa_cons (pv 0) (pa_cons (pe_bltn (by rfl) m_str (by decide +kernel) rfl) pa_nil)))) (pss_one (ps_ret pe_str)) pss_nil)
      (pss_one (ps_ret pe_str))))
abbrev s_law_fits : Stmt := (topS 31)
theorem sc_law_fits : FnScope N_law_fits ["_law_drawn", "_law_name_here", "_law_vector", "_law_pairs_here", "_law_words_here"] (defScope s_law_fits) := ⟨rfl, rfl, rfl, by decide +kernel, rfl, by decide +kernel, by decide +kernel⟩
theorem ok_law_fits (D_law_kind : Dfn P w K mg base 1 "_law_kind" ["_law_worth"] (sp_law_kind K)) (m_len : mg "len" = none) {f : Addr} {fd : FuncData} (F : Fun K "_law_fits" "_law_fits" s_law_fits f fd) : FnOk P w K mg base CX0 2 f fd ["_law_drawn", "_law_name_here", "_law_vector", "_law_pairs_here", "_law_words_here"] (sp_law_fits K) := by
  have sc := sc_law_fits
  refine F.ok sc_law_fits (fun vs H Q E h => ((w_law_fits) vs H Q E h).1) (fun cdv A outer s H vs Q E hr h => ⟨T_law_fits K, ?_, ((w_law_fits) vs H Q E h).2⟩)
  exact (pss_cons (ps_asg (pv 0) (pg_tup rfl (pgs_cons (pg_name (i := 5) sc.nd rfl (by first | exact Or.inl rfl | exact Or.inr rfl)) (pgs_cons (pg_name (i := 6) sc.nd rfl (by first | exact Or.inl rfl | exact Or.inr rfl)) (pgs_cons (pg_name (i := 7) sc.nd rfl (by first | exact Or.inl rfl | exact Or.inr rfl)) (pgs_cons (pg_name (i := 8) sc.nd rfl (by first | exact Or.inl rfl | exact Or.inr rfl)) pgs_nil))))))
      (pss_cons (ps_set (i := 9) sc.nd rfl (by first | exact Or.inl rfl | exact Or.inr rfl) (pe_bm PySem.F.plainAttrs_list PySem.F.slot_list_index PySem.F.type_list_index mt_index (pe_lst (pa_cons pe_str (pa_cons pe_str (pa_cons pe_str pa_nil)))) (pa_cons (pv 6) pa_nil)))
      (pss_cons (ps_if (PW.pt (pw_or (pt_cmpR (op_uEq hr.units) (pv 1) pe_str (nomark _)) (pw_or1 (pt_cmpR (op_uNe hr.units) (pe_callB call_uLen (by rfl) m_len (by decide +kernel) (pa_cons (pv 2) pa_nil)) (pv 5) (nomark _))))) (pss_one (ps_ret pe_bl)) pss_nil)
      (pss_cons (ps_for PassesOwn.never rfl (pi_sq (pv 2)) (pg_name (i := 10) sc.nd rfl (by first | exact Or.inl rfl | exact Or.inr rfl)) (pss_one (ps_if (PW.pt (pw_or (pt_cmpR (op_uLt hr.units) (pv 10) (pe_ix ix_uIx (pe_lst (pa_cons pe_int (pa_cons (pe_un un_uNeg pe_int) (pa_cons (pe_un un_uNeg pe_int) pa_nil)))) (pv 9) (fun _ _ => rfl)) (nomark _)) (pw_or1 (pt_cmpR op_uGt (pv 10) (pe_ix ix_uIx (pe_lst (pa_cons pe_int (pa_cons pe_int (pa_cons pe_int pa_nil)))) (pv 9) (fun _ _ => rfl)) (nomark _))))) (pss_one (ps_ret pe_bl)) pss_nil)))
      (pss_cons (by first | exact (ps_setLc (i := 11) (own := [("_law_field", 12), ("_law_kind_here", 13)]) (g := (gTup K 2 (gCons (gName 12) (gCons (gName 13) gNil)))) (tt := tYes) rfl sc.nd rfl rfl (sw_true rfl rfl rfl (by decide +kernel)) (pi_sq (pv 8)) (blkOk_by (N := N_law_fits) (sc := defScope s_law_fits) (by decide +kernel)) (fun _ _ _ _ _ => (pg_tup rfl (pgs_cons (pg_name (i := 12) sc.nd rfl (by first | exact Or.inl rfl | exact Or.inr rfl)) (pgs_cons (pg_name (i := 13) sc.nd rfl (by first | exact Or.inl rfl | exact Or.inr rfl)) pgs_nil)))) (fun _ _ _ _ _ => pts_nil) (fun _ _ _ _ _ => (pv 12))) | exact (ps_set (i := 11) sc.nd rfl (Or.inr rfl) (pe_lc (own := [("_law_field", 12), ("_law_kind_here", 13)]) (g := (gTup K 2 (gCons (gName 12) (gCons (gName 13) gNil)))) (tt := tYes) rfl sc.nd (pi_sq (pv 8)) (blkOk_by (N := N_law_fits) (sc := defScope s_law_fits) (by decide +kernel)) (fun _ _ _ _ _ => (pg_tup rfl (pgs_cons (pg_name (i := 12) sc.nd rfl (by first | exact Or.inl rfl | exact Or.inr rfl)) (pgs_cons (pg_name (i := 13) sc.nd rfl (by first | exact Or.inl rfl | exact Or.inr rfl)) pgs_nil)))) (fun _ _ _ _ _ => pts_nil) (fun _ _ _ _ _ => (pv 12)))))
      (pss_cons (ps_set (i := 14) sc.nd rfl (by first | exact Or.inl rfl | exact Or.inr rfl) (pe_un un_uNeg pe_int))
      (pss_cons (ps_for PassesOwn.never rfl (pi_sq (pv 3)) (pg_tup rfl (pgs_cons (pg_name (i := 12) sc.nd rfl (by first | exact Or.inl rfl | exact Or.inr rfl)) (pgs_cons (pg_name (i := 15) sc.nd rfl (by first | exact Or.inl rfl | exact Or.inr rfl)) pgs_nil))) (pss_cons (ps_if (PW.pt (pw_or (pt_cmpR op_uNotIn (pv 12) (pv 11) (by rfl)) (pw_or (pt_cmpR op_uLe (pe_bm PySem.F.plainAttrs_list PySem.F.slot_list_index PySem.F.type_list_index mt_index (pv 11) (pa_cons (pv 12) pa_nil)) (pv 14) (nomark _)) (pw_or1 (pt_cmpR (op_uNe hr.units) (pe_ix ix_uIx (pe_ix ix_uIx (pv 8) (pe_bm PySem.F.plainAttrs_list PySem.F.slot_list_index PySem.F.type_list_index mt_index (pv 11) (pa_cons (pv 12) pa_nil)) (fun _ _ => rfl)) pe_int (fun _ _ => rfl)) (z_call D_law_kind (hr.mono (by decide)) (by rfl) (pa_cons (pv 15) pa_nil)) (nomark _)))))) (pss_one (ps_ret pe_bl)) pss_nil)
      (pss_one (ps_set (i := 14) sc.nd rfl (by first | exact Or.inl rfl | exact Or.inr rfl) (pe_bm PySem.F.plainAttrs_list PySem.F.slot_list_index PySem.F.type_list_index mt_index (pv 11) (pa_cons (pv 12) pa_nil))))))
      (pss_cons (ps_set (i := 16) sc.nd rfl (by first | exact Or.inl rfl | exact Or.inr rfl) pe_str)
      (pss_cons (ps_for PassesOwn.never rfl (pi_sq (pv 4)) (pg_tup rfl (pgs_cons (pg_name (i := 17) sc.nd rfl (by first | exact Or.inl rfl | exact Or.inr rfl)) (pgs_cons (pg_name (i := 18) sc.nd rfl (by first | exact Or.inl rfl | exact Or.inr rfl)) pgs_nil))) (pss_cons (ps_if (PW.pt (pw_or (pt_cmpR op_uLe (pv 17) (pv 16) (nomark _)) (pw_or1 (pt_cmpR (op_uLt hr.units) (pv 18) pe_int (nomark _))))) (pss_one (ps_ret pe_bl)) pss_nil)
      (pss_one (ps_set (i := 16) sc.nd rfl (by first | exact Or.inl rfl | exact Or.inr rfl) (pv 17)))))
      (pss_one (ps_ret pe_bl)))))))))))
abbrev s_Schema_least : Stmt := (inClass (topS 15) 1)
theorem sc_Schema_least : FnScope N_Schema_least ["self"] (defScope s_Schema_least) := ⟨rfl, rfl, rfl, by decide +kernel, rfl, by decide +kernel, by decide +kernel⟩
theorem ok_Schema_least (g_RANGES : KD K w mg "RANGES" [("bit", .t [.int 0, .int 1]), ("small", .t [.int (-128), .int 127]), ("wide", .t [.int (-32768), .int 32767])]) {f : Addr} {fd : FuncData} (F : Fun K "least" "Schema.least" s_Schema_least f fd) : FnOk P w K mg base CX0 1 f fd ["self"] (sp_Schema_least K c) := by
  have sc := sc_Schema_least
  refine F.ok sc_Schema_least (fun vs H Q E h => ((w_Schema_least (c := c)) vs H Q E h).1) (fun cdv A outer s H vs Q E hr h => ⟨T_Schema_least K, ?_, ((w_Schema_least (c := c)) vs H Q E h).2⟩)
  exact (pss_one (ps_ret (pe_ix ix_uIx (z_kix g_RANGES (pe_fld (pv 0) rfl) (by rfl)) pe_int (fun _ _ => rfl))))
abbrev s_Schema_greatest : Stmt := (inClass (topS 15) 2)
theorem sc_Schema_greatest : FnScope N_Schema_greatest ["self"] (defScope s_Schema_greatest) := ⟨rfl, rfl, rfl, by decide +kernel, rfl, by decide +kernel, by decide +kernel⟩
theorem ok_Schema_greatest (g_RANGES : KD K w mg "RANGES" [("bit", .t [.int 0, .int 1]), ("small", .t [.int (-128), .int 127]), ("wide", .t [.int (-32768), .int 32767])]) {f : Addr} {fd : FuncData} (F : Fun K "greatest" "Schema.greatest" s_Schema_greatest f fd) : FnOk P w K mg base CX0 1 f fd ["self"] (sp_Schema_greatest K c) := by
  have sc := sc_Schema_greatest
  refine F.ok sc_Schema_greatest (fun vs H Q E h => ((w_Schema_greatest (c := c)) vs H Q E h).1) (fun cdv A outer s H vs Q E hr h => ⟨T_Schema_greatest K, ?_, ((w_Schema_greatest (c := c)) vs H Q E h).2⟩)
  exact (pss_one (ps_ret (pe_ix ix_uIx (z_kix g_RANGES (pe_fld (pv 0) rfl) (by rfl)) pe_int (fun _ _ => rfl))))
abbrev s_Schema_has_vector : Stmt := (inClass (topS 15) 5)
theorem sc_Schema_has_vector : FnScope N_Schema_has_vector ["self", "vector"] (defScope s_Schema_has_vector) := ⟨rfl, rfl, rfl, by decide +kernel, rfl, by decide +kernel, by decide +kernel⟩
theorem ok_Schema_has_vector (C_Schema : ClsF K mg c "Schema" ["size", "width", "measure", "fields"]) (P_Schema_least : Prp P w K mg base 1 (c.cls "Schema") "least" ["self"] (sp_Schema_least K c)) (P_Schema_greatest : Prp P w K mg base 1 (c.cls "Schema") "greatest" ["self"] (sp_Schema_greatest K c)) (m_len : mg "len" = none) {f : Addr} {fd : FuncData} (F : Fun K "has_vector" "Schema.has_vector" s_Schema_has_vector f fd) : FnOk P w K mg base CX0 3 f fd ["self", "vector"] (sp_Schema_has_vector K c) := by
  have sc := sc_Schema_has_vector
  refine F.ok sc_Schema_has_vector (fun vs H Q E h => ((w_Schema_has_vector (c := c)) vs H Q E h).1) (fun cdv A outer s H vs Q E hr h => ⟨T_Schema_has_vector K c, ?_, ((w_Schema_has_vector (c := c)) vs H Q E h).2⟩)
  exact (pss_cons (ps_if (pt_cmpR (op_uNe hr.units) (pe_callB call_uLen (by rfl) m_len (by decide +kernel) (pa_cons (pv 1) pa_nil)) (pe_fld (pv 0) rfl) (nomark _)) (pss_one (ps_ret pe_bl)) pss_nil)
      (pss_cons (ps_for PassesOwn.never rfl (pi_sq (pv 1)) (pg_name (i := 2) sc.nd rfl (by first | exact Or.inl rfl | exact Or.inr rfl)) (pss_one (ps_if (PW.pt (pw_or (pt_cmpR (op_uLt hr.units) (pv 2) (z_prop (pv 0) C_Schema P_Schema_least (hr.mono (by decide)) rfl) (nomark _)) (pw_or1 (pt_cmpR op_uGt (pv 2) (z_prop (pv 0) C_Schema P_Schema_greatest (hr.mono (by decide)) rfl) (nomark _))))) (pss_one (ps_ret pe_bl)) pss_nil)))
      (pss_one (ps_ret pe_bl))))
abbrev s_kind_of_value : Stmt := (topS 13)
theorem sc_kind_of_value : FnScope N_kind_of_value ["worth"] (defScope s_kind_of_value) := ⟨rfl, rfl, rfl, by decide +kernel, rfl, by decide +kernel, by decide +kernel⟩
theorem ok_kind_of_value (m_bool : mg "bool" = none) (m_isinstance : mg "isinstance" = none) (m_str : mg "str" = none) {f : Addr} {fd : FuncData} (F : Fun K "kind_of_value" "kind_of_value" s_kind_of_value f fd) : FnOk P w K mg base CX0 1 f fd ["worth"] (sp_kind_of_value K) := by
  have sc := sc_kind_of_value
  refine F.ok sc_kind_of_value (fun vs H Q E h => ((w_kind_of_value) vs H Q E h).1) (fun cdv A outer s H vs Q E hr h => ⟨T_kind_of_value K, ?_, ((w_kind_of_value) vs H Q E h).2⟩)
  exact (pss_cons (ps_if (pt_u (pe_callB call_uIsi (by rfl) m_isinstance (by decide +kernel) (pa_cons (pv 0) (pa_cons (pe_bltn (by rfl) m_bool (by decide +kernel) rfl) pa_nil)))) (pss_one (ps_ret pe_str)) pss_nil)
      (pss_cons (ps_if (pt_u (pe_callB call_uIsi (by rfl) m_isinstance (by decide +kernel) (pa_cons (pv 0) (pa_cons (pe_bltn (by rfl) m_str (by decide +kernel) rfl) pa_nil)))) (pss_one (ps_ret pe_str)) pss_nil)
      (pss_one (ps_ret pe_str))))
abbrev s_Schema_has_fields : Stmt := (inClass (topS 15) 6)
theorem sc_Schema_has_fields : FnScope N_Schema_has_fields ["self", "pairs"] (defScope s_Schema_has_fields) := ⟨rfl, rfl, rfl, by decide +kernel, rfl, by decide +kernel, by decide +kernel⟩
theorem ok_Schema_has_fields (D_kind_of_value : Dfn P w K mg base 1 "kind_of_value" ["worth"] (sp_kind_of_value K)) (m_len : mg "len" = none) {f : Addr} {fd : FuncData} (F : Fun K "has_fields" "Schema.has_fields" s_Schema_has_fields f fd) : FnOk P w K mg base CX0 2 f fd ["self", "pairs"] (sp_Schema_has_fields K c) := by
  have sc := sc_Schema_has_fields
  refine F.ok sc_Schema_has_fields (fun vs H Q E h => ((w_Schema_has_fields (c := c)) vs H Q E h).1) (fun cdv A outer s H vs Q E hr h => ⟨T_Schema_has_fields K, ?_, ((w_Schema_has_fields (c := c)) vs H Q E h).2⟩)
  exact (pss_cons (ps_set (i := 2) sc.nd rfl (by first | exact Or.inl rfl | exact Or.inr rfl) pe_int)
      (pss_cons (ps_for PassesOwn.never rfl (pi_sq (pv 1)) (pg_tup rfl (pgs_cons (pg_name (i := 3) sc.nd rfl (by first | exact Or.inl rfl | exact Or.inr rfl)) (pgs_cons (pg_name (i := 4) sc.nd rfl (by first | exact Or.inl rfl | exact Or.inr rfl)) pgs_nil))) (pss_cons (ps_while PassesOwn.never (PW.pt (pw_and (pt_cmpR (op_uLt hr.units) (pv 2) (pe_callB call_uLen (by rfl) m_len (by decide +kernel) (pa_cons (pe_fld (pv 0) rfl) pa_nil)) (nomark _)) (pw_and1 (pt_cmpR (op_uNe hr.units) (pe_ix ix_uIx (pe_ix ix_uIx (pe_fld (pv 0) rfl) (pv 2) (fun _ _ => rfl)) pe_int (fun _ _ => rfl)) (pv 3) (nomark _))))) (pss_one (ps_set (i := 2) sc.nd rfl (by first | exact Or.inl rfl | exact Or.inr rfl) (pe_op op_uAdd (pv 2) pe_int))))
      (pss_cons (ps_if (PW.pt (pw_or (pt_cmpR (op_uEq hr.units) (pv 2) (pe_callB call_uLen (by rfl) m_len (by decide +kernel) (pa_cons (pe_fld (pv 0) rfl) pa_nil)) (nomark _)) (pw_or1 (pt_cmpR (op_uNe hr.units) (pe_ix ix_uIx (pe_ix ix_uIx (pe_fld (pv 0) rfl) (pv 2) (fun _ _ => rfl)) pe_int (fun _ _ => rfl)) (z_call D_kind_of_value (hr.mono (by decide)) (by rfl) (pa_cons (pv 4) pa_nil)) (nomark _))))) (pss_one (ps_ret pe_bl)) pss_nil)
      (pss_one (ps_set (i := 2) sc.nd rfl (by first | exact Or.inl rfl | exact Or.inr rfl) (pe_op op_uAdd (pv 2) pe_int))))))
      (pss_one (ps_ret pe_bl))))
abbrev s_words_fit : Stmt := (topS 14)
theorem sc_words_fit : FnScope N_words_fit ["words"] (defScope s_words_fit) := ⟨rfl, rfl, rfl, by decide +kernel, rfl, by decide +kernel, by decide +kernel⟩
theorem ok_words_fit {f : Addr} {fd : FuncData} (F : Fun K "words_fit" "words_fit" s_words_fit f fd) : FnOk P w K mg base CX0 1 f fd ["words"] (sp_words_fit K) := by
  have sc := sc_words_fit
  refine F.ok sc_words_fit (fun vs H Q E h => ((w_words_fit) vs H Q E h).1) (fun cdv A outer s H vs Q E hr h => ⟨T_words_fit K, ?_, ((w_words_fit) vs H Q E h).2⟩)
  exact (pss_cons (ps_set (i := 1) sc.nd rfl (by first | exact Or.inl rfl | exact Or.inr rfl) pe_str)
      (pss_cons (ps_for PassesOwn.never rfl (pi_sq (pv 0)) (pg_tup rfl (pgs_cons (pg_name (i := 2) sc.nd rfl (by first | exact Or.inl rfl | exact Or.inr rfl)) (pgs_cons (pg_name (i := 3) sc.nd rfl (by first | exact Or.inl rfl | exact Or.inr rfl)) pgs_nil))) (pss_cons (ps_if (PW.pt (pw_or (pt_cmpR op_uLe (pv 2) (pv 1) (nomark _)) (pw_or1 (pt_cmpR (op_uLt hr.units) (pv 3) pe_int (nomark _))))) (pss_one (ps_ret pe_bl)) pss_nil)
      (pss_one (ps_set (i := 1) sc.nd rfl (by first | exact Or.inl rfl | exact Or.inr rfl) (pv 2)))))
      (pss_one (ps_ret pe_bl))))
abbrev s_Schema_contains : Stmt := (inClass (topS 15) 7)
theorem sc_Schema_contains : FnScope N_Schema_contains ["self", "record"] (defScope s_Schema_contains) := ⟨rfl, rfl, rfl, by decide +kernel, rfl, by decide +kernel, by decide +kernel⟩
theorem ok_Schema_contains (C_Schema : ClsF K mg c "Schema" ["size", "width", "measure", "fields"]) (M_Schema_has_vector : Mth P w K mg base 3 (c.cls "Schema") "has_vector" ["self", "vector"] (sp_Schema_has_vector K c)) (M_Schema_has_fields : Mth P w K mg base 2 (c.cls "Schema") "has_fields" ["self", "pairs"] (sp_Schema_has_fields K c)) (D_words_fit : Dfn P w K mg base 1 "words_fit" ["words"] (sp_words_fit K)) {f : Addr} {fd : FuncData} (F : Fun K "__contains__" "Schema.__contains__" s_Schema_contains f fd) : FnOk P w K mg base CX0 4 f fd ["self", "record"] (sp_Schema_contains K c) := by
  have sc := sc_Schema_contains
  refine F.ok sc_Schema_contains (fun vs H Q E h => ((w_Schema_contains (c := c)) vs H Q E h).1) (fun cdv A outer s H vs Q E hr h => ⟨T_Schema_contains K c, ?_, ((w_Schema_contains (c := c)) vs H Q E h).2⟩)
  exact (pss_cons (ps_if (PW.pt (pw_or (pt_cmpR (op_uEq hr.units) (pe_fld (pv 1) rfl) pe_str (nomark _)) (pw_or1 (pt_not (pt_u (z_meth (pv 0) C_Schema M_Schema_has_vector (hr.mono (by decide)) (pa_cons (pe_fld (pv 1) rfl) pa_nil))))))) (pss_one (ps_ret pe_bl)) pss_nil)
      (pss_one (ps_ret (pe_and (z_meth (pv 0) C_Schema M_Schema_has_fields (hr.mono (by decide)) (pa_cons (pe_fld (pv 1) rfl) pa_nil)) (pe_one (z_call D_words_fit (hr.mono (by decide)) (by rfl) (pa_cons (pe_fld (pv 1) rfl) pa_nil)))))))
abbrev s_Schema_check : Stmt := (inClass (topS 15) 8)
theorem sc_Schema_check : FnScope N_Schema_check ["self", "record"] (defScope s_Schema_check) := ⟨rfl, rfl, rfl, by decide +kernel, rfl, by decide +kernel, by decide +kernel⟩
theorem ok_Schema_check (E_InvalidRecord : ExcF K mg c "InvalidRecord") (C_Schema : ClsF K mg c "Schema" ["size", "width", "measure", "fields"]) (M_Schema_contains : Mth P w K mg base 4 (c.cls "Schema") "__contains__" ["self", "record"] (sp_Schema_contains K c)) {f : Addr} {fd : FuncData} (F : Fun K "check" "Schema.check" s_Schema_check f fd) : FnOk P w K mg base (L2.CX P w) 5 f fd ["self", "record"] (sp_Schema_check K c) := by
  have sc := sc_Schema_check
  refine F.okX sc_Schema_check (fun vs H Q E h => ((w_Schema_check (c := c)) vs H Q E h).1) (fun cdv A outer s H vs Q E hr h => ⟨T_Schema_check K c (fun cls d _ H => E cls d H), ?_, ((w_Schema_check (c := c)) vs H Q E h).2⟩)
  exact (pss_one (ps_if (pt_cmpR (op_outO C_Schema M_Schema_contains (hr.mono (by decide))) (pv 1) (pv 0) (by rfl)) (pss_one (z_raiseA rfl E_InvalidRecord (takes_of rfl rfl rfl rfl) (by rfl) (pe_fld (pv 1) rfl))) pss_nil))
abbrev s_law_refused : Stmt := (topS 33)
theorem sc_law_refused : FnScope N_law_refused ["_law_schema_here", "_law_record"] (defScope s_law_refused) := ⟨rfl, rfl, rfl, by decide +kernel, rfl, by decide +kernel, by decide +kernel⟩
theorem ok_law_refused (N_InvalidRecord : mg "InvalidRecord" = some (.ref (c.cls "InvalidRecord"))) (T_InvalidRecord : ∀ y ∈ (["InvalidRecord", "InvalidSchema"] : List Str), PySem.W.exmOne K (.ref (c.cls y)) (.ref (c.cls "InvalidRecord")) = some (SUB y "InvalidRecord")) (N_SurenearError : mg "SurenearError" = some (.ref (c.cls "SurenearError"))) (T_SurenearError : ∀ y ∈ (["InvalidRecord", "InvalidSchema"] : List Str), PySem.W.exmOne K (.ref (c.cls y)) (.ref (c.cls "SurenearError")) = some (SUB y "SurenearError")) (C_Schema : ClsF K mg c "Schema" ["size", "width", "measure", "fields"]) (M_Schema_check : MthX P w K mg base 5 (c.cls "Schema") "check" ["self", "record"] (sp_Schema_check K c)) {f : Addr} {fd : FuncData} (F : Fun K "_law_refused" "_law_refused" s_law_refused f fd) : FnOk P w K mg base CX0 6 f fd ["_law_schema_here", "_law_record"] (sp_law_refused K c) := by
  have sc := sc_law_refused
  refine F.ok sc_law_refused (fun vs H Q E h => ((w_law_refused (c := c)) vs H Q E h).1) (fun cdv A outer s H vs Q E hr h => ⟨T_law_refused K c, ?_, ((w_law_refused (c := c)) vs H Q E h).2⟩)
  exact (pss_one (z_tryM (l := [("InvalidRecord", (tRet (tC (.bl true)))), ("SurenearError", (tRet (tC .non)))]) rfl rfl (List.forall_mem_cons.mpr ⟨T_InvalidRecord, (List.forall_mem_cons.mpr ⟨T_SurenearError, (fun _ h => nomatch h)⟩)⟩) takes0 (fun W pn xe tk po => (pss_cons (ps_if (pt_cmpR op_uIs (z_methX (pv 0) C_Schema M_Schema_check (passW tk) (hr.mono (by decide)) (pa_cons (pv 1) pa_nil)) pe_non (nomark _)) (pss_one (ps_ret pe_bl)) pss_nil)
      (pss_one (ps_ret pe_non)))) (.cons ⟨by rfl, by decide, .inl N_InvalidRecord⟩ (fun a oe cls d pn hz hf => (pss_one (ps_ret pe_bl))) (.cons ⟨by rfl, by decide, .inl N_SurenearError⟩ (fun a oe cls d pn hz hf => (pss_one (ps_ret pe_non))) .nil))))
abbrev s_Record_value : Stmt := (inClass (topS 19) 1)
theorem sc_Record_value : FnScope N_Record_value ["self", "name"] (defScope s_Record_value) := ⟨rfl, rfl, rfl, by decide +kernel, rfl, by decide +kernel, by decide +kernel⟩
theorem ok_Record_value {f : Addr} {fd : FuncData} (F : Fun K "value" "Record.value" s_Record_value f fd) : FnOk P w K mg base CX0 1 f fd ["self", "name"] (sp_Record_value K c) := by
  have sc := sc_Record_value
  refine F.ok sc_Record_value (fun vs H Q E h => ((w_Record_value (c := c)) vs H Q E h).1) (fun cdv A outer s H vs Q E hr h => ⟨T_Record_value K, ?_, ((w_Record_value (c := c)) vs H Q E h).2⟩)
  exact (pss_cons (ps_for PassesOwn.never rfl (pi_sq (pe_fld (pv 0) rfl)) (pg_tup rfl (pgs_cons (pg_name (i := 2) sc.nd rfl (by first | exact Or.inl rfl | exact Or.inr rfl)) (pgs_cons (pg_name (i := 3) sc.nd rfl (by first | exact Or.inl rfl | exact Or.inr rfl)) pgs_nil))) (pss_one (ps_if (pt_cmpR (op_uEq hr.units) (pv 2) (pv 1) (nomark _)) (pss_one (ps_ret (pv 3))) pss_nil)))
      (pss_one (ps_ret pe_non)))
abbrev s_Record_count_of : Stmt := (inClass (topS 19) 2)
theorem sc_Record_count_of : FnScope N_Record_count_of ["self", "word"] (defScope s_Record_count_of) := ⟨rfl, rfl, rfl, by decide +kernel, rfl, by decide +kernel, by decide +kernel⟩
theorem ok_Record_count_of {f : Addr} {fd : FuncData} (F : Fun K "count_of" "Record.count_of" s_Record_count_of f fd) : FnOk P w K mg base CX0 1 f fd ["self", "word"] (sp_Record_count_of K c) := by
  have sc := sc_Record_count_of
  refine F.ok sc_Record_count_of (fun vs H Q E h => ((w_Record_count_of (c := c)) vs H Q E h).1) (fun cdv A outer s H vs Q E hr h => ⟨T_Record_count_of K, ?_, ((w_Record_count_of (c := c)) vs H Q E h).2⟩)
  exact (pss_cons (ps_for PassesOwn.never rfl (pi_sq (pe_fld (pv 0) rfl)) (pg_tup rfl (pgs_cons (pg_name (i := 2) sc.nd rfl (by first | exact Or.inl rfl | exact Or.inr rfl)) (pgs_cons (pg_name (i := 3) sc.nd rfl (by first | exact Or.inl rfl | exact Or.inr rfl)) pgs_nil))) (pss_one (ps_if (pt_cmpR (op_uEq hr.units) (pv 2) (pv 1) (nomark _)) (pss_one (ps_ret (pv 3))) pss_nil)))
      (pss_one (ps_ret pe_int)))
abbrev s_law_tells : Stmt := (topS 34)
theorem sc_law_tells : FnScope N_law_tells ["_law_record", "_law_thing"] (defScope s_law_tells) := ⟨rfl, rfl, rfl, by decide +kernel, rfl, by decide +kernel, by decide +kernel⟩
theorem ok_law_tells (C_Record : ClsF K mg c "Record" ["name", "vector", "fields", "words"]) (M_Record_value : Mth P w K mg base 1 (c.cls "Record") "value" ["self", "name"] (sp_Record_value K c)) (M_Record_count_of : Mth P w K mg base 1 (c.cls "Record") "count_of" ["self", "word"] (sp_Record_count_of K c)) (m_tuple : mg "tuple" = none) (m_bool : mg "bool" = none) (m_isinstance : mg "isinstance" = none) {f : Addr} {fd : FuncData} (F : Fun K "_law_tells" "_law_tells" s_law_tells f fd) : FnOk P w K mg base CX0 2 f fd ["_law_record", "_law_thing"] (sp_law_tells K c) := by
  have sc := sc_law_tells
  refine F.ok sc_law_tells (fun vs H Q E h => ((w_law_tells (c := c)) vs H Q E h).1) (fun cdv A outer s H vs Q E hr h => ⟨T_law_tells K c, ?_, ((w_law_tells (c := c)) vs H Q E h).2⟩)
  exact (pss_cons (ps_asg (pv 1) (pg_tup rfl (pgs_cons (pg_name (i := 2) sc.nd rfl (by first | exact Or.inl rfl | exact Or.inr rfl)) (pgs_cons (pg_name (i := 3) sc.nd rfl (by first | exact Or.inl rfl | exact Or.inr rfl)) (pgs_cons (pg_name (i := 4) sc.nd rfl (by first | exact Or.inl rfl | exact Or.inr rfl)) (pgs_cons (pg_name (i := 5) sc.nd rfl (by first | exact Or.inl rfl | exact Or.inr rfl)) pgs_nil))))))
      (pss_cons (ps_if (PW.pt (pw_or (pt_cmpR (op_uNe hr.units) (pe_fld (pv 0) rfl) (pv 2) (nomark _)) (pw_or (pt_cmpR (op_uNe hr.units) (pe_fld (pv 0) rfl) (pe_callTy call_uTuple (by rfl) m_tuple (by decide +kernel) (pa_cons (pv 3) pa_nil)) (nomark _)) (pw_or1 (pt_cmpR (op_uNe hr.units) (pe_fld (pv 0) rfl) (pe_callTy call_uTuple (by rfl) m_tuple (by decide +kernel) (pa_cons (pv 5) pa_nil)) (nomark _)))))) (pss_one (ps_ret pe_bl)) pss_nil)
      (pss_cons (ps_for PassesOwn.never rfl (pi_sq (pe_lst (pa_cons pe_str (pa_cons pe_str (pa_cons pe_str (pa_cons pe_str (pa_cons pe_str pa_nil))))))) (pg_name (i := 6) sc.nd rfl (by first | exact Or.inl rfl | exact Or.inr rfl)) (pss_cons (ps_set (i := 7) sc.nd rfl (by first | exact Or.inl rfl | exact Or.inr rfl) pe_non)
      (pss_cons (ps_for PassesOwn.never rfl (pi_sq (pv 4)) (pg_tup rfl (pgs_cons (pg_name (i := 8) sc.nd rfl (by first | exact Or.inl rfl | exact Or.inr rfl)) (pgs_cons (pg_name (i := 9) sc.nd rfl (by first | exact Or.inl rfl | exact Or.inr rfl)) pgs_nil))) (pss_one (ps_if (PW.pt (pw_and (pt_cmpR (op_uEq hr.units) (pv 8) (pv 6) (nomark _)) (pw_and1 (pt_cmpR op_uIs (pv 7) pe_non (nomark _))))) (pss_one (ps_set (i := 7) sc.nd rfl (by first | exact Or.inl rfl | exact Or.inr rfl) (pv 9))) pss_nil)))
      (pss_cons (ps_set (i := 10) sc.nd rfl (by first | exact Or.inl rfl | exact Or.inr rfl) (z_meth (pv 0) C_Record M_Record_value (hr.mono (by decide)) (pa_cons (pv 6) pa_nil)))
      (pss_one (ps_if (PW.pt (pw_or (pt_cmpR (op_uNe hr.units) (pv 10) (pv 7) (nomark _)) (pw_or1 (pt_cmpR (op_uNe hr.units) (pe_callB call_uIsi (by rfl) m_isinstance (by decide +kernel) (pa_cons (pv 10) (pa_cons (pe_bltn (by rfl) m_bool (by decide +kernel) rfl) pa_nil))) (pe_callB call_uIsi (by rfl) m_isinstance (by decide +kernel) (pa_cons (pv 7) (pa_cons (pe_bltn (by rfl) m_bool (by decide +kernel) rfl) pa_nil))) (nomark _))))) (pss_one (ps_ret pe_bl)) pss_nil))))))
      (pss_cons (ps_for PassesOwn.never rfl (pi_sq (pe_lst (pa_cons pe_str (pa_cons pe_str (pa_cons pe_str (pa_cons pe_str pa_nil)))))) (pg_name (i := 11) sc.nd rfl (by first | exact Or.inl rfl | exact Or.inr rfl)) (pss_cons (by first | exact (ps_setLc (i := 12) (own := [("_law_other", 8), ("_law_count", 13)]) (g := (gTup K 2 (gCons (gName 8) (gCons (gName 13) gNil)))) (tt := (tTest (tOp (uEq K) (tVar 8) (tVar 11)))) rfl sc.nd rfl rfl (sw_true rfl rfl rfl (by decide +kernel)) (pi_sq (pv 5)) (blkOk_by (N := N_law_tells) (sc := defScope s_law_tells) (by decide +kernel)) (fun _ _ _ _ _ => (pg_tup rfl (pgs_cons (pg_name (i := 8) sc.nd rfl (by first | exact Or.inl rfl | exact Or.inr rfl)) (pgs_cons (pg_name (i := 13) sc.nd rfl (by first | exact Or.inl rfl | exact Or.inr rfl)) pgs_nil)))) (fun _ _ _ _ _ => (pts_one (pt_cmpR (op_uEq hr.units) (pv 8) (pv 11) (nomark _)))) (fun _ _ _ _ _ => (pv 13))) | exact (ps_set (i := 12) sc.nd rfl (Or.inr rfl) (pe_lc (own := [("_law_other", 8), ("_law_count", 13)]) (g := (gTup K 2 (gCons (gName 8) (gCons (gName 13) gNil)))) (tt := (tTest (tOp (uEq K) (tVar 8) (tVar 11)))) rfl sc.nd (pi_sq (pv 5)) (blkOk_by (N := N_law_tells) (sc := defScope s_law_tells) (by decide +kernel)) (fun _ _ _ _ _ => (pg_tup rfl (pgs_cons (pg_name (i := 8) sc.nd rfl (by first | exact Or.inl rfl | exact Or.inr rfl)) (pgs_cons (pg_name (i := 13) sc.nd rfl (by first | exact Or.inl rfl | exact Or.inr rfl)) pgs_nil)))) (fun _ _ _ _ _ => (pts_one (pt_cmpR (op_uEq hr.units) (pv 8) (pv 11) (nomark _)))) (fun _ _ _ _ _ => (pv 13)))))
      (pss_one (ps_if (pt_cmpR (op_uNe hr.units) (z_meth (pv 0) C_Record M_Record_count_of (hr.mono (by decide)) (pa_cons (pv 11) pa_nil)) (pe_ix ix_uIx (pe_op op_uAdd (pv 12) (pe_lst (pa_cons pe_int pa_nil))) pe_int (fun _ _ => rfl)) (nomark _)) (pss_one (ps_ret pe_bl)) pss_nil))))
      (pss_one (ps_ret pe_bl))))))
abbrev s_law : Stmt := (topS 35)
theorem sc_law : FnScope N_law ["_law_script"] (defScope s_law) := ⟨rfl, rfl, rfl, by decide +kernel, rfl, by decide +kernel, by decide +kernel⟩
theorem ok_law (C_Schema : ClsF K mg c "Schema" ["size", "width", "measure", "fields"]) (C_Record : ClsF K mg c "Record" ["name", "vector", "fields", "words"]) (D_law_schema : Dfn P w K mg base 4 "_law_schema" ["_law_state"] (sp_law_schema K)) (K_Schema_init_1_width_measure_fields : MkrK (L2.CX P w) P w K mg base 3 (c.cls "Schema") ["self", "size", "width", "measure", "fields"] (sp_Schema_init K c) 1 ["width", "measure", "fields"] [] [(true, 0), (true, 1), (true, 2)]) (D_law_number : Dfn P w K mg base 3 "_law_number" ["_law_state", "_law_width"] (sp_law_number K)) (D_law_words : Dfn P w K mg base 3 "_law_words" ["_law_state"] (sp_law_words K)) (D_law_pairs : Dfn P w K mg base 4 "_law_pairs" ["_law_state", "_law_fields_here"] (sp_law_pairs K)) (D_law_name : Dfn P w K mg base 3 "_law_name" ["_law_state"] (sp_law_name K)) (D_law_next : Dfn P w K mg base 2 "_law_next" ["_law_state", "_law_many"] (sp_law_next K)) (D_law_change : Dfn P w K mg base 3 "_law_change" ["_law_state", "_law_drawn", "_law_thing"] (sp_law_change K)) (K_Record_init_2_fields_words : MkrK CX0 P w K mg base 1 (c.cls "Record") ["self", "name", "vector", "fields", "words"] (sp_Record_init K c) 2 ["fields", "words"] [] [(true, 0), (true, 1)]) (D_law_fits : Dfn P w K mg base 2 "_law_fits" ["_law_drawn", "_law_name_here", "_law_vector", "_law_pairs_here", "_law_words_here"] (sp_law_fits K)) (M_Schema_contains : Mth P w K mg base 4 (c.cls "Schema") "__contains__" ["self", "record"] (sp_Schema_contains K c)) (D_law_refused : Dfn P w K mg base 6 "_law_refused" ["_law_schema_here", "_law_record"] (sp_law_refused K c)) (D_law_tells : Dfn P w K mg base 2 "_law_tells" ["_law_record", "_law_thing"] (sp_law_tells K c)) (m_list : mg "list" = none) (m_range : mg "range" = none) {f : Addr} {fd : FuncData} (F : Fun K "law" "law" s_law f fd) : FnOk P w K mg base CX0 7 f fd ["_law_script"] (sp_law K) := by
  have sc := sc_law
  refine F.ok sc_law (fun vs H Q E h => ((w_law (c := c)) vs H Q E h).1) (fun cdv A outer s H vs Q E hr h => ⟨T_law K c, ?_, ((w_law (c := c)) vs H Q E h).2⟩)
  exact (pss_cons (ps_set (i := 1) sc.nd rfl (by first | exact Or.inl rfl | exact Or.inr rfl) (pe_lst (pa_cons (pe_callTy call_uList (by rfl) m_list (by decide +kernel) (pa_cons (pv 0) pa_nil)) (pa_cons pe_int (pa_cons pe_int pa_nil)))))
      (pss_cons (ps_set (i := 2) sc.nd rfl (by first | exact Or.inl rfl | exact Or.inr rfl) (z_call D_law_schema (hr.mono (by decide)) (by rfl) (pa_cons (pv 1) pa_nil)))
      (pss_cons (ps_set (i := 3) sc.nd rfl (by first | exact Or.inl rfl | exact Or.inr rfl) (z_makeK C_Schema K_Schema_init_1_width_measure_fields passF (hr.mono (by decide)) (by rfl) (pa_cons (pe_ix ix_uIx (pv 2) pe_int (fun _ _ => rfl)) pa_nil) (pk_cons (pe_ix ix_uIx (pv 2) pe_int (fun _ _ => rfl)) (pk_cons (pe_ix ix_uIx (pv 2) pe_int (fun _ _ => rfl)) (pk_cons (pe_ix ix_uIx (pv 2) pe_int (fun _ _ => rfl)) pk_nil)))))
      (pss_cons (ps_for PassesOwn.never rfl (pi_range1 (by rfl) m_range (pa_cons pe_int pa_nil)) (pg_name (i := 4) sc.nd rfl (by first | exact Or.inl rfl | exact Or.inr rfl)) (pss_cons (by first | exact (ps_setLc (i := 5) (own := [("_law_k", 6)]) (g := (gName 6)) (tt := tYes) rfl sc.nd rfl rfl (sw_true rfl rfl rfl (by decide +kernel)) (pi_range1 (by rfl) m_range (pa_cons (pe_ix ix_uIx (pv 2) pe_int (fun _ _ => rfl)) pa_nil)) (blkOk_by (N := N_law) (sc := defScope s_law) (by decide +kernel)) (fun _ _ _ _ _ => (pg_name (i := 6) sc.nd rfl (by first | exact Or.inl rfl | exact Or.inr rfl))) (fun _ _ _ _ _ => pts_nil) (fun _ _ _ _ _ => (z_call D_law_number (hr.mono (by decide)) (by rfl) (pa_cons (pv 1) (pa_cons (pe_ix ix_uIx (pv 2) pe_int (fun _ _ => rfl)) pa_nil))))) | exact (ps_set (i := 5) sc.nd rfl (Or.inr rfl) (pe_lc (own := [("_law_k", 6)]) (g := (gName 6)) (tt := tYes) rfl sc.nd (pi_range1 (by rfl) m_range (pa_cons (pe_ix ix_uIx (pv 2) pe_int (fun _ _ => rfl)) pa_nil)) (blkOk_by (N := N_law) (sc := defScope s_law) (by decide +kernel)) (fun _ _ _ _ _ => (pg_name (i := 6) sc.nd rfl (by first | exact Or.inl rfl | exact Or.inr rfl))) (fun _ _ _ _ _ => pts_nil) (fun _ _ _ _ _ => (z_call D_law_number (hr.mono (by decide)) (by rfl) (pa_cons (pv 1) (pa_cons (pe_ix ix_uIx (pv 2) pe_int (fun _ _ => rfl)) pa_nil)))))))
      (pss_cons (ps_set (i := 7) sc.nd rfl (by first | exact Or.inl rfl | exact Or.inr rfl) (pe_tup (pa_cons (z_call D_law_name (hr.mono (by decide)) (by rfl) (pa_cons (pv 1) pa_nil)) (pa_cons (pv 5) (pa_cons (z_call D_law_pairs (hr.mono (by decide)) (by rfl) (pa_cons (pv 1) (pa_cons (pe_ix ix_uIx (pv 2) pe_int (fun _ _ => rfl)) pa_nil))) (pa_cons (z_call D_law_words (hr.mono (by decide)) (by rfl) (pa_cons (pv 1) pa_nil)) pa_nil))))))
      (pss_cut (ps_if (pt_cmpR op_uGt (z_call D_law_next (hr.mono (by decide)) (by rfl) (pa_cons (pv 1) (pa_cons pe_int pa_nil))) pe_int (nomark _)) (pss_one (ps_set (i := 7) sc.nd rfl (by first | exact Or.inl rfl | exact Or.inr rfl) (z_call D_law_change (hr.mono (by decide)) (by rfl) (pa_cons (pv 1) (pa_cons (pv 2) (pa_cons (pv 7) pa_nil)))))) pss_nil)
      (pss_cons (ps_set (i := 8) sc.nd rfl (by first | exact Or.inl rfl | exact Or.inr rfl) (z_makeK C_Record K_Record_init_2_fields_words pass00 (hr.mono (by decide)) (by rfl) (pa_cons (pe_ix ix_uIx (pv 7) pe_int (fun _ _ => rfl)) (pa_cons (pe_callTy call_uList (by rfl) m_list (by decide +kernel) (pa_cons (pe_ix ix_uIx (pv 7) pe_int (fun _ _ => rfl)) pa_nil)) pa_nil)) (pk_cons (pe_callTy call_uList (by rfl) m_list (by decide +kernel) (pa_cons (pe_ix ix_uIx (pv 7) pe_int (fun _ _ => rfl)) pa_nil)) (pk_cons (pe_callTy call_uList (by rfl) m_list (by decide +kernel) (pa_cons (pe_ix ix_uIx (pv 7) pe_int (fun _ _ => rfl)) pa_nil)) pk_nil))))
      (pss_cons (ps_set (i := 9) sc.nd rfl (by first | exact Or.inl rfl | exact Or.inr rfl) (z_call D_law_fits (hr.mono (by decide)) (by rfl) (pa_cons (pv 2) (pa_cons (pe_ix ix_uIx (pv 7) pe_int (fun _ _ => rfl)) (pa_cons (pe_ix ix_uIx (pv 7) pe_int (fun _ _ => rfl)) (pa_cons (pe_ix ix_uIx (pv 7) pe_int (fun _ _ => rfl)) (pa_cons (pe_ix ix_uIx (pv 7) pe_int (fun _ _ => rfl)) pa_nil)))))))
      (pss_cons (ps_if (PW.pt (pw_or (pt_cmpR (op_uNe hr.units) (pe_cmpR (op_inO C_Schema M_Schema_contains (hr.mono (by decide))) (pv 8) (pv 3) (by rfl)) (pv 9) (nomark _)) (pw_or1 (pt_cmpR (op_uNe hr.units) (z_call D_law_refused (hr.mono (by decide)) (by rfl) (pa_cons (pv 3) (pa_cons (pv 8) pa_nil))) (pe_not (pv 9)) (nomark _))))) (pss_one (ps_ret pe_bl)) pss_nil)
      (pss_one (ps_if (pt_not (pt_u (z_call D_law_tells (hr.mono (by decide)) (by rfl) (pa_cons (pv 8) (pa_cons (pv 7) pa_nil))))) (pss_one (ps_ret pe_bl)) pss_nil)))))))))
      (pss_one (ps_ret pe_bl))))))
end
def cEnv (C0 C1 C2 C3 C4 : Addr) : CEnv := ⟨fun x => (([("InvalidSchema", C0), ("Schema", C1), ("InvalidRecord", C2), ("SurenearError", C3), ("Record", C4)] : List (Str × Addr)).lookup x).getD 0, fun y => y ∈ ([] : List Str)⟩
theorem all_mk {l : PySem.W.OpenLaw} {w : World} {K : PySem.W.Frag} {h : Heap} {mg : Str → Option Value} {fa f0 f1 f2 f3 f4 f5 f6 f7 f8 f9 f10 f11 f12 f13 f14 f15 f16 f17 f18 f19 f20 f21 f22 f23 f24 f25 f26 f27 f28 f29 C0 C1 C2 C3 C4 p17 p18 : Addr} (X : K.In h) (G : h.Ns mainGlobals mg) (hfa : mg "law" = some (.ref fa))
    {tg0_0 tg0_1 tg0_2 tg0_3 tg0_4 tg0_5 tg0_6 tg0_7 tg1_0 tg1_1 tg1_2 tx1_0_0 tx1_0_1 tx1_1_0 tx1_1_1 tx1_2_0 tx1_2_1 tg2_0 tg2_1 tg2_2 tg3_0 tg3_1 tg3_2 tt7_width tt7_measure : Tok}
    {kt1 : Addr} {ktn1 : Nat}
    {kh1_0 kh1_1 kh1_2 : Int}
    {kv1_0 kv1_1 kv1_2 : Addr} {kvd1_0 kvd1_1 kvd1_2 : Option Addr} {kvn1_0 kvn1_1 kvn1_2 : Nat} {kvs1_0 kvs1_1 kvs1_2 : Array (Option Value)}
    {kt0 kt2 kt3 : Addr} {ktd0 ktd2 ktd3 : Option Addr} {ktn0 ktn2 ktn3 : Nat} {kts0 kts2 kts3 : Array (Option Value)}
    {kD7 kD14 kT7_fields kT14_fields kT14_words : Addr}
    {ddkT7_fields ddkT14_fields ddkT14_words : Option Addr} {nnkT7_fields nnkT14_fields nnkT14_words : Nat} {sskT7_fields sskT14_fields sskT14_words : Array (Option Value)}
    {rest17 rest18 : List Value}
    {od0 an0 od1 an1 od2 an2 od3 an3 od4 an4 od5 an5 od6 an6 od7 an7 od8 an8 od9 an9 od10 an10 od11 an11 od12 an12 od13 an13 od14 an14 od15 an15 od16 an16 od17 an17 od18 an18 od19 an19 od20 an20 od21 an21 od22 an22 od23 an23 od24 an24 od25 an25 od26 an26 od27 an27 od28 an28 od29 an29 : Option Addr} {sl0 sl1 sl2 sl3 sl4 sl5 sl6 sl7 sl8 sl9 sl10 sl11 sl12 sl13 sl14 sl15 sl16 sl17 sl18 sl19 sl20 sl21 sl22 sl23 sl24 sl25 sl26 sl27 sl28 sl29 : Array (Option Value)} {oc0 kV0 dc0 pm0 cd0 ct0 oc1 kV1 dc1 pm1 cd1 ct1 oc2 kV2 dc2 pm2 cd2 ct2 oc3 kV3 dc3 pm3 cd3 ct3 oc4 kV4 dc4 pm4 cd4 ct4 oc5 kV5 dc5 pm5 cd5 ct5 oc6 kV6 dc6 pm6 cd6 ct6 oc7 dc7 pm7 cd7 ct7 oc8 kV8 dc8 pm8 cd8 ct8 oc9 kV9 dc9 pm9 cd9 ct9 oc10 kV10 dc10 pm10 cd10 ct10 oc11 kV11 dc11 pm11 cd11 ct11 oc12 kV12 dc12 pm12 cd12 ct12 oc13 kV13 dc13 pm13 cd13 ct13 oc14 dc14 pm14 cd14 ct14 oc15 kV15 dc15 pm15 cd15 ct15 oc16 kV16 dc16 pm16 cd16 ct16 oc17 kV17 dc17 pm17 cd17 ct17 oc18 kV18 dc18 pm18 cd18 ct18 oc19 kV19 dc19 pm19 cd19 ct19 oc20 kV20 dc20 pm20 cd20 ct20 oc21 kV21 dc21 pm21 cd21 ct21 oc22 kV22 dc22 pm22 cd22 ct22 oc23 kV23 dc23 pm23 cd23 ct23 oc24 kV24 dc24 pm24 cd24 ct24 oc25 kV25 dc25 pm25 cd25 ct25 oc26 kV26 dc26 pm26 cd26 ct26 oc27 kV27 dc27 pm27 cd27 ct27 oc28 kV28 dc28 pm28 cd28 ct28 oc29 kV29 dc29 pm29 cd29 ct29 : Value}
    (b0 : PySem.W.nsIn K mainGlobals "InvalidSchema" = some (some (.ref C0)))
    (xq0 : PySem.W.excIn K C0 [.type "ValueError", .type "Exception", .type "BaseException", .type "object"] "ValueError.__new__" = true)
    (kc0 : PySem.W.keepIn K (.ref C0) = true)
    (xb0 : PySem.W.subIn K (.ref C0) (.type "BaseException") = some true)
    (xt0 : PySem.W.typeIn K (.ref C0) = some (.type "type"))
    (b1 : PySem.W.nsIn K mainGlobals "Schema" = some (some (.ref C1)))
    (pg1 : PySem.W.plainGet K C1 Str.empty = true)
    (hd1 : PySem.W.hasDictIn K C1 = true)
    (po1 : PySem.W.plainOver K C1 = true)
    (sa1 : PySem.W.findIn K (.ref C1) "__setattr__" = some (some (.builtin "object.__setattr__")))
    (ha1 : PySem.W.findIn K (.ref C1) "__class__" = some (some (.builtin "object.__class__")))
    (hm1 : PySem.W.mroIn K C1 (.type "object") = some true)
    (mk1 : PySem.W.makesIn K C1 = true)
    (kc1 : PySem.W.keepIn K (.ref C1) = true)
    (n1_0 : PySem.W.findIn K (.ref C1) "size" = some none)
    (n1_1 : PySem.W.findIn K (.ref C1) "width" = some none)
    (n1_2 : PySem.W.findIn K (.ref C1) "measure" = some none)
    (n1_3 : PySem.W.findIn K (.ref C1) "fields" = some none)
    (b2 : PySem.W.nsIn K mainGlobals "InvalidRecord" = some (some (.ref C2)))
    (xq2 : PySem.W.excIn K C2 [.type "ValueError", .type "Exception", .type "BaseException", .type "object"] "ValueError.__new__" = true)
    (kc2 : PySem.W.keepIn K (.ref C2) = true)
    (xb2 : PySem.W.subIn K (.ref C2) (.type "BaseException") = some true)
    (xt2 : PySem.W.typeIn K (.ref C2) = some (.type "type"))
    (xi2 : PySem.W.isClsIn K C2 = true)
    (xs2_2 : PySem.W.subIn K (.ref C2) (.ref C2) = some true)
    (xs2_0 : PySem.W.subIn K (.ref C0) (.ref C2) = some false)
    (b3 : PySem.W.nsIn K mainGlobals "SurenearError" = some (some (.ref C3)))
    (xb3 : PySem.W.subIn K (.ref C3) (.type "BaseException") = some true)
    (xt3 : PySem.W.typeIn K (.ref C3) = some (.type "type"))
    (xi3 : PySem.W.isClsIn K C3 = true)
    (xs3_2 : PySem.W.subIn K (.ref C2) (.ref C3) = some true)
    (xs3_0 : PySem.W.subIn K (.ref C0) (.ref C3) = some true)
    (b4 : PySem.W.nsIn K mainGlobals "Record" = some (some (.ref C4)))
    (pg4 : PySem.W.plainGet K C4 Str.empty = true)
    (hd4 : PySem.W.hasDictIn K C4 = true)
    (po4 : PySem.W.plainOver K C4 = true)
    (sa4 : PySem.W.findIn K (.ref C4) "__setattr__" = some (some (.builtin "object.__setattr__")))
    (ha4 : PySem.W.findIn K (.ref C4) "__class__" = some (some (.builtin "object.__class__")))
    (hm4 : PySem.W.mroIn K C4 (.type "object") = some true)
    (mk4 : PySem.W.makesIn K C4 = true)
    (kc4 : PySem.W.keepIn K (.ref C4) = true)
    (n4_0 : PySem.W.findIn K (.ref C4) "name" = some none)
    (n4_1 : PySem.W.findIn K (.ref C4) "vector" = some none)
    (n4_2 : PySem.W.findIn K (.ref C4) "fields" = some none)
    (n4_3 : PySem.W.findIn K (.ref C4) "words" = some none)
    (hn : PySem.W.specialIn K (.builtin "object.__class__") "__get__" = some (some (.builtin "getset_descriptor.__get__")))
    (htk : PySem.W.takesIn K (.builtin "object.__class__") = some true)
    (a0 : PySem.W.nsIn K mainGlobals "_law_row" = some (some (.ref f0)))
    (l0 : K.lookup f0 = some ⟨oc0, od0, .func (PySem.W.fnOf "_law_row" "_law_row" (defArgs s_law_row) (defBody s_law_row) (defScope s_law_row) .none kV0 dc0 pm0 an0 cd0 ct0), sl0⟩)
    (c0 : PySem.W.codeIn K cd0 "_law_row" = true)
    (k0 : PySem.W.keepIn K (.ref f0) = true)
    (a1 : PySem.W.nsIn K mainGlobals "_law_next" = some (some (.ref f1)))
    (l1 : K.lookup f1 = some ⟨oc1, od1, .func (PySem.W.fnOf "_law_next" "_law_next" (defArgs s_law_next) (defBody s_law_next) (defScope s_law_next) .none kV1 dc1 pm1 an1 cd1 ct1), sl1⟩)
    (c1 : PySem.W.codeIn K cd1 "_law_next" = true)
    (k1 : PySem.W.keepIn K (.ref f1) = true)
    (a2 : PySem.W.nsIn K mainGlobals "_law_fields" = some (some (.ref f2)))
    (l2 : K.lookup f2 = some ⟨oc2, od2, .func (PySem.W.fnOf "_law_fields" "_law_fields" (defArgs s_law_fields) (defBody s_law_fields) (defScope s_law_fields) .none kV2 dc2 pm2 an2 cd2 ct2), sl2⟩)
    (c2 : PySem.W.codeIn K cd2 "_law_fields" = true)
    (k2 : PySem.W.keepIn K (.ref f2) = true)
    (a3 : PySem.W.nsIn K mainGlobals "_law_schema" = some (some (.ref f3)))
    (l3 : K.lookup f3 = some ⟨oc3, od3, .func (PySem.W.fnOf "_law_schema" "_law_schema" (defArgs s_law_schema) (defBody s_law_schema) (defScope s_law_schema) .none kV3 dc3 pm3 an3 cd3 ct3), sl3⟩)
    (c3 : PySem.W.codeIn K cd3 "_law_schema" = true)
    (k3 : PySem.W.keepIn K (.ref f3) = true)
    (a4 : PySem.W.nsIn K mainGlobals "is_letter" = some (some (.ref f4)))
    (l4 : K.lookup f4 = some ⟨oc4, od4, .func (PySem.W.fnOf "is_letter" "is_letter" (defArgs s_is_letter) (defBody s_is_letter) (defScope s_is_letter) .none kV4 dc4 pm4 an4 cd4 ct4), sl4⟩)
    (c4 : PySem.W.codeIn K cd4 "is_letter" = true)
    (k4 : PySem.W.keepIn K (.ref f4) = true)
    (a5 : PySem.W.nsIn K mainGlobals "is_digit" = some (some (.ref f5)))
    (l5 : K.lookup f5 = some ⟨oc5, od5, .func (PySem.W.fnOf "is_digit" "is_digit" (defArgs s_is_digit) (defBody s_is_digit) (defScope s_is_digit) .none kV5 dc5 pm5 an5 cd5 ct5), sl5⟩)
    (c5 : PySem.W.codeIn K cd5 "is_digit" = true)
    (k5 : PySem.W.keepIn K (.ref f5) = true)
    (a6 : PySem.W.nsIn K mainGlobals "is_field_name" = some (some (.ref f6)))
    (l6 : K.lookup f6 = some ⟨oc6, od6, .func (PySem.W.fnOf "is_field_name" "is_field_name" (defArgs s_is_field_name) (defBody s_is_field_name) (defScope s_is_field_name) .none kV6 dc6 pm6 an6 cd6 ct6), sl6⟩)
    (c6 : PySem.W.codeIn K cd6 "is_field_name" = true)
    (k6 : PySem.W.keepIn K (.ref f6) = true)
    (a7 : PySem.W.findIn K (.ref C1) "__init__" = some (some (.ref f7)))
    (i7 : PySem.W.isFn K (.ref f7) = true)
    (l7 : K.lookup f7 = some ⟨oc7, od7, .func (PySem.W.fnOf "__init__" "Schema.__init__" (defArgs s_Schema_init) (defBody s_Schema_init) (defScope s_Schema_init) .none (.ref kD7) dc7 pm7 an7 cd7 ct7), sl7⟩)
    (c7 : PySem.W.codeIn K cd7 "Schema.__init__" = true)
    (k7 : PySem.W.keepIn K (.ref f7) = true)
    (a8 : PySem.W.nsIn K mainGlobals "_law_number" = some (some (.ref f8)))
    (l8 : K.lookup f8 = some ⟨oc8, od8, .func (PySem.W.fnOf "_law_number" "_law_number" (defArgs s_law_number) (defBody s_law_number) (defScope s_law_number) .none kV8 dc8 pm8 an8 cd8 ct8), sl8⟩)
    (c8 : PySem.W.codeIn K cd8 "_law_number" = true)
    (k8 : PySem.W.keepIn K (.ref f8) = true)
    (a9 : PySem.W.nsIn K mainGlobals "_law_words" = some (some (.ref f9)))
    (l9 : K.lookup f9 = some ⟨oc9, od9, .func (PySem.W.fnOf "_law_words" "_law_words" (defArgs s_law_words) (defBody s_law_words) (defScope s_law_words) .none kV9 dc9 pm9 an9 cd9 ct9), sl9⟩)
    (c9 : PySem.W.codeIn K cd9 "_law_words" = true)
    (k9 : PySem.W.keepIn K (.ref f9) = true)
    (a10 : PySem.W.nsIn K mainGlobals "_law_value" = some (some (.ref f10)))
    (l10 : K.lookup f10 = some ⟨oc10, od10, .func (PySem.W.fnOf "_law_value" "_law_value" (defArgs s_law_value) (defBody s_law_value) (defScope s_law_value) .none kV10 dc10 pm10 an10 cd10 ct10), sl10⟩)
    (c10 : PySem.W.codeIn K cd10 "_law_value" = true)
    (k10 : PySem.W.keepIn K (.ref f10) = true)
    (a11 : PySem.W.nsIn K mainGlobals "_law_pairs" = some (some (.ref f11)))
    (l11 : K.lookup f11 = some ⟨oc11, od11, .func (PySem.W.fnOf "_law_pairs" "_law_pairs" (defArgs s_law_pairs) (defBody s_law_pairs) (defScope s_law_pairs) .none kV11 dc11 pm11 an11 cd11 ct11), sl11⟩)
    (c11 : PySem.W.codeIn K cd11 "_law_pairs" = true)
    (k11 : PySem.W.keepIn K (.ref f11) = true)
    (a12 : PySem.W.nsIn K mainGlobals "_law_name" = some (some (.ref f12)))
    (l12 : K.lookup f12 = some ⟨oc12, od12, .func (PySem.W.fnOf "_law_name" "_law_name" (defArgs s_law_name) (defBody s_law_name) (defScope s_law_name) .none kV12 dc12 pm12 an12 cd12 ct12), sl12⟩)
    (c12 : PySem.W.codeIn K cd12 "_law_name" = true)
    (k12 : PySem.W.keepIn K (.ref f12) = true)
    (a13 : PySem.W.nsIn K mainGlobals "_law_change" = some (some (.ref f13)))
    (l13 : K.lookup f13 = some ⟨oc13, od13, .func (PySem.W.fnOf "_law_change" "_law_change" (defArgs s_law_change) (defBody s_law_change) (defScope s_law_change) .none kV13 dc13 pm13 an13 cd13 ct13), sl13⟩)
    (c13 : PySem.W.codeIn K cd13 "_law_change" = true)
    (k13 : PySem.W.keepIn K (.ref f13) = true)
    (a14 : PySem.W.findIn K (.ref C4) "__init__" = some (some (.ref f14)))
    (i14 : PySem.W.isFn K (.ref f14) = true)
    (l14 : K.lookup f14 = some ⟨oc14, od14, .func (PySem.W.fnOf "__init__" "Record.__init__" (defArgs s_Record_init) (defBody s_Record_init) (defScope s_Record_init) .none (.ref kD14) dc14 pm14 an14 cd14 ct14), sl14⟩)
    (c14 : PySem.W.codeIn K cd14 "Record.__init__" = true)
    (k14 : PySem.W.keepIn K (.ref f14) = true)
    (a15 : PySem.W.nsIn K mainGlobals "_law_kind" = some (some (.ref f15)))
    (l15 : K.lookup f15 = some ⟨oc15, od15, .func (PySem.W.fnOf "_law_kind" "_law_kind" (defArgs s_law_kind) (defBody s_law_kind) (defScope s_law_kind) .none kV15 dc15 pm15 an15 cd15 ct15), sl15⟩)
    (c15 : PySem.W.codeIn K cd15 "_law_kind" = true)
    (k15 : PySem.W.keepIn K (.ref f15) = true)
    (a16 : PySem.W.nsIn K mainGlobals "_law_fits" = some (some (.ref f16)))
    (l16 : K.lookup f16 = some ⟨oc16, od16, .func (PySem.W.fnOf "_law_fits" "_law_fits" (defArgs s_law_fits) (defBody s_law_fits) (defScope s_law_fits) .none kV16 dc16 pm16 an16 cd16 ct16), sl16⟩)
    (c16 : PySem.W.codeIn K cd16 "_law_fits" = true)
    (k16 : PySem.W.keepIn K (.ref f16) = true)
    (a17 : PySem.W.findIn K (.ref C1) "least" = some (some (.ref p17)))
    (pa17 : PySem.W.specialIn K (.ref p17) "__get__" = some (some (.builtin "property.__get__")))
    (pb17 : PySem.W.takesIn K (.ref p17) = some true)
    (pc17 : PySem.W.recIn K p17 "property" = some (.ref f17 :: rest17))
    (l17 : K.lookup f17 = some ⟨oc17, od17, .func (PySem.W.fnOf "least" "Schema.least" (defArgs s_Schema_least) (defBody s_Schema_least) (defScope s_Schema_least) .none kV17 dc17 pm17 an17 cd17 ct17), sl17⟩)
    (c17 : PySem.W.codeIn K cd17 "Schema.least" = true)
    (k17 : PySem.W.keepIn K (.ref f17) = true)
    (a18 : PySem.W.findIn K (.ref C1) "greatest" = some (some (.ref p18)))
    (pa18 : PySem.W.specialIn K (.ref p18) "__get__" = some (some (.builtin "property.__get__")))
    (pb18 : PySem.W.takesIn K (.ref p18) = some true)
    (pc18 : PySem.W.recIn K p18 "property" = some (.ref f18 :: rest18))
    (l18 : K.lookup f18 = some ⟨oc18, od18, .func (PySem.W.fnOf "greatest" "Schema.greatest" (defArgs s_Schema_greatest) (defBody s_Schema_greatest) (defScope s_Schema_greatest) .none kV18 dc18 pm18 an18 cd18 ct18), sl18⟩)
    (c18 : PySem.W.codeIn K cd18 "Schema.greatest" = true)
    (k18 : PySem.W.keepIn K (.ref f18) = true)
    (a19 : PySem.W.findIn K (.ref C1) "has_vector" = some (some (.ref f19)))
    (i19 : PySem.W.isFn K (.ref f19) = true)
    (l19 : K.lookup f19 = some ⟨oc19, od19, .func (PySem.W.fnOf "has_vector" "Schema.has_vector" (defArgs s_Schema_has_vector) (defBody s_Schema_has_vector) (defScope s_Schema_has_vector) .none kV19 dc19 pm19 an19 cd19 ct19), sl19⟩)
    (c19 : PySem.W.codeIn K cd19 "Schema.has_vector" = true)
    (k19 : PySem.W.keepIn K (.ref f19) = true)
    (a20 : PySem.W.nsIn K mainGlobals "kind_of_value" = some (some (.ref f20)))
    (l20 : K.lookup f20 = some ⟨oc20, od20, .func (PySem.W.fnOf "kind_of_value" "kind_of_value" (defArgs s_kind_of_value) (defBody s_kind_of_value) (defScope s_kind_of_value) .none kV20 dc20 pm20 an20 cd20 ct20), sl20⟩)
    (c20 : PySem.W.codeIn K cd20 "kind_of_value" = true)
    (k20 : PySem.W.keepIn K (.ref f20) = true)
    (a21 : PySem.W.findIn K (.ref C1) "has_fields" = some (some (.ref f21)))
    (i21 : PySem.W.isFn K (.ref f21) = true)
    (l21 : K.lookup f21 = some ⟨oc21, od21, .func (PySem.W.fnOf "has_fields" "Schema.has_fields" (defArgs s_Schema_has_fields) (defBody s_Schema_has_fields) (defScope s_Schema_has_fields) .none kV21 dc21 pm21 an21 cd21 ct21), sl21⟩)
    (c21 : PySem.W.codeIn K cd21 "Schema.has_fields" = true)
    (k21 : PySem.W.keepIn K (.ref f21) = true)
    (a22 : PySem.W.nsIn K mainGlobals "words_fit" = some (some (.ref f22)))
    (l22 : K.lookup f22 = some ⟨oc22, od22, .func (PySem.W.fnOf "words_fit" "words_fit" (defArgs s_words_fit) (defBody s_words_fit) (defScope s_words_fit) .none kV22 dc22 pm22 an22 cd22 ct22), sl22⟩)
    (c22 : PySem.W.codeIn K cd22 "words_fit" = true)
    (k22 : PySem.W.keepIn K (.ref f22) = true)
    (a23 : PySem.W.findIn K (.ref C1) "__contains__" = some (some (.ref f23)))
    (i23 : PySem.W.isFn K (.ref f23) = true)
    (l23 : K.lookup f23 = some ⟨oc23, od23, .func (PySem.W.fnOf "__contains__" "Schema.__contains__" (defArgs s_Schema_contains) (defBody s_Schema_contains) (defScope s_Schema_contains) .none kV23 dc23 pm23 an23 cd23 ct23), sl23⟩)
    (c23 : PySem.W.codeIn K cd23 "Schema.__contains__" = true)
    (k23 : PySem.W.keepIn K (.ref f23) = true)
    (a24 : PySem.W.findIn K (.ref C1) "check" = some (some (.ref f24)))
    (i24 : PySem.W.isFn K (.ref f24) = true)
    (l24 : K.lookup f24 = some ⟨oc24, od24, .func (PySem.W.fnOf "check" "Schema.check" (defArgs s_Schema_check) (defBody s_Schema_check) (defScope s_Schema_check) .none kV24 dc24 pm24 an24 cd24 ct24), sl24⟩)
    (c24 : PySem.W.codeIn K cd24 "Schema.check" = true)
    (k24 : PySem.W.keepIn K (.ref f24) = true)
    (a25 : PySem.W.nsIn K mainGlobals "_law_refused" = some (some (.ref f25)))
    (l25 : K.lookup f25 = some ⟨oc25, od25, .func (PySem.W.fnOf "_law_refused" "_law_refused" (defArgs s_law_refused) (defBody s_law_refused) (defScope s_law_refused) .none kV25 dc25 pm25 an25 cd25 ct25), sl25⟩)
    (c25 : PySem.W.codeIn K cd25 "_law_refused" = true)
    (k25 : PySem.W.keepIn K (.ref f25) = true)
    (a26 : PySem.W.findIn K (.ref C4) "value" = some (some (.ref f26)))
    (i26 : PySem.W.isFn K (.ref f26) = true)
    (l26 : K.lookup f26 = some ⟨oc26, od26, .func (PySem.W.fnOf "value" "Record.value" (defArgs s_Record_value) (defBody s_Record_value) (defScope s_Record_value) .none kV26 dc26 pm26 an26 cd26 ct26), sl26⟩)
    (c26 : PySem.W.codeIn K cd26 "Record.value" = true)
    (k26 : PySem.W.keepIn K (.ref f26) = true)
    (a27 : PySem.W.findIn K (.ref C4) "count_of" = some (some (.ref f27)))
    (i27 : PySem.W.isFn K (.ref f27) = true)
    (l27 : K.lookup f27 = some ⟨oc27, od27, .func (PySem.W.fnOf "count_of" "Record.count_of" (defArgs s_Record_count_of) (defBody s_Record_count_of) (defScope s_Record_count_of) .none kV27 dc27 pm27 an27 cd27 ct27), sl27⟩)
    (c27 : PySem.W.codeIn K cd27 "Record.count_of" = true)
    (k27 : PySem.W.keepIn K (.ref f27) = true)
    (a28 : PySem.W.nsIn K mainGlobals "_law_tells" = some (some (.ref f28)))
    (l28 : K.lookup f28 = some ⟨oc28, od28, .func (PySem.W.fnOf "_law_tells" "_law_tells" (defArgs s_law_tells) (defBody s_law_tells) (defScope s_law_tells) .none kV28 dc28 pm28 an28 cd28 ct28), sl28⟩)
    (c28 : PySem.W.codeIn K cd28 "_law_tells" = true)
    (k28 : PySem.W.keepIn K (.ref f28) = true)
    (a29 : PySem.W.nsIn K mainGlobals "law" = some (some (.ref f29)))
    (l29 : K.lookup f29 = some ⟨oc29, od29, .func (PySem.W.fnOf "law" "law" (defArgs s_law) (defBody s_law) (defScope s_law) .none kV29 dc29 pm29 an29 cd29 ct29), sl29⟩)
    (c29 : PySem.W.codeIn K cd29 "law" = true)
    (k29 : PySem.W.keepIn K (.ref f29) = true)
    (kd7_width : PySem.W.nsIn K kD7 "width" = some (some (.str "small" tt7_width)))
    (kd7_measure : PySem.W.nsIn K kD7 "measure" = some (some (.str "square" tt7_measure)))
    (kd7_fields : PySem.W.nsIn K kD7 "fields" = some (some (.ref kT7_fields)))
    (kx7_fields : K.lookup kT7_fields = some ⟨.type "tuple", ddkT7_fields, .seq ([] : List Value).toArray nnkT7_fields, sskT7_fields⟩)
    (kd14_fields : PySem.W.nsIn K kD14 "fields" = some (some (.ref kT14_fields)))
    (kx14_fields : K.lookup kT14_fields = some ⟨.type "tuple", ddkT14_fields, .seq ([] : List Value).toArray nnkT14_fields, sskT14_fields⟩)
    (kd14_words : PySem.W.nsIn K kD14 "words" = some (some (.ref kT14_words)))
    (kx14_words : K.lookup kT14_words = some ⟨.type "tuple", ddkT14_words, .seq ([] : List Value).toArray nnkT14_words, sskT14_words⟩)
    (z0 : PySem.W.nsIn K mainGlobals "len" = some none)
    (z1 : PySem.W.nsIn K mainGlobals "int" = some none)
    (z2 : PySem.W.nsIn K mainGlobals "range" = some none)
    (z3 : PySem.W.nsIn K mainGlobals "tuple" = some none)
    (z4 : PySem.W.nsIn K mainGlobals "max" = some none)
    (z5 : PySem.W.nsIn K mainGlobals "min" = some none)
    (z6 : PySem.W.nsIn K mainGlobals "bool" = some none)
    (z7 : PySem.W.nsIn K mainGlobals "isinstance" = some none)
    (z8 : PySem.W.nsIn K mainGlobals "str" = some none)
    (z9 : PySem.W.nsIn K mainGlobals "list" = some none)
    (kg0 : PySem.W.nsIn K mainGlobals "WORDS" = some (some (.ref kt0)))
    (kl0 : K.lookup kt0 = some ⟨.type "tuple", ktd0, .seq ([.str "every" tg0_0, .str "has" tg0_1, .str "in" tg0_2, .str "and" tg0_3, .str "or" tg0_4, .str "not" tg0_5, .str "true" tg0_6, .str "false" tg0_7] : List Value).toArray ktn0, kts0⟩)
    (kg1 : PySem.W.nsIn K mainGlobals "RANGES" = some (some (.ref kt1)))
    (kl1 : K.lookup kt1 = some ⟨.type "dict", none, .dict ([⟨kh1_0, .str "bit" tg1_0, .ref kv1_0⟩, ⟨kh1_1, .str "small" tg1_1, .ref kv1_1⟩, ⟨kh1_2, .str "wide" tg1_2, .ref kv1_2⟩] : List DictEntry).toArray ktn1, #[]⟩)
    (kk1 : PySem.W.KeysLit w.params [⟨kh1_0, .str "bit" tg1_0, .ref kv1_0⟩, ⟨kh1_1, .str "small" tg1_1, .ref kv1_1⟩, ⟨kh1_2, .str "wide" tg1_2, .ref kv1_2⟩])
    (ko1 : (kt1 == sysModules) = false)
    (kw1_0 : K.lookup kv1_0 = some ⟨.type "tuple", kvd1_0, .seq ([.int 0 tx1_0_0, .int 1 tx1_0_1] : List Value).toArray kvn1_0, kvs1_0⟩)
    (kw1_1 : K.lookup kv1_1 = some ⟨.type "tuple", kvd1_1, .seq ([.int (-128) tx1_1_0, .int 127 tx1_1_1] : List Value).toArray kvn1_1, kvs1_1⟩)
    (kw1_2 : K.lookup kv1_2 = some ⟨.type "tuple", kvd1_2, .seq ([.int (-32768) tx1_2_0, .int 32767 tx1_2_1] : List Value).toArray kvn1_2, kvs1_2⟩)
    (kg2 : PySem.W.nsIn K mainGlobals "MEASURES" = some (some (.ref kt2)))
    (kl2 : K.lookup kt2 = some ⟨.type "tuple", ktd2, .seq ([.str "square" tg2_0, .str "dot" tg2_1, .str "bits" tg2_2] : List Value).toArray ktn2, kts2⟩)
    (kg3 : PySem.W.nsIn K mainGlobals "KINDS" = some (some (.ref kt3)))
    (kl3 : K.lookup kt3 = some ⟨.type "tuple", ktd3, .seq ([.str "integer" tg3_0, .str "text" tg3_1, .str "flag" tg3_2] : List Value).toArray ktn3, kts3⟩)
    : ∃ fd : FuncData, (∀ (s : Shared) (v : Value), BindsTo s fd ⟨[v], []⟩ [("_law_script", v)]) ∧ ∀ base : Heap, K.In base → base.Ns mainGlobals mg → FnOk l.prog w K mg base CX0 7 fa fd ["_law_script"] (sp_law K) := by
  have e := hfa.symm.trans (PySem.W.mg_of X G a29)
  cases e
  have m_len := PySem.W.mg_none_of X G z0
  have m_int := PySem.W.mg_none_of X G z1
  have m_range := PySem.W.mg_none_of X G z2
  have m_tuple := PySem.W.mg_none_of X G z3
  have m_max := PySem.W.mg_none_of X G z4
  have m_min := PySem.W.mg_none_of X G z5
  have m_bool := PySem.W.mg_none_of X G z6
  have m_isinstance := PySem.W.mg_none_of X G z7
  have m_str := PySem.W.mg_none_of X G z8
  have m_list := PySem.W.mg_none_of X G z9
  have g_WORDS : ∃ T, mg "WORDS" = some (.ref T) ∧ ∀ H, SqT K H T [.str "every", .str "has", .str "in", .str "and", .str "or", .str "not", .str "true", .str "false"] := ⟨_, PySem.W.mg_of X G kg0, sqT_lit kl0 (.cons ⟨_, rfl⟩ (.cons ⟨_, rfl⟩ (.cons ⟨_, rfl⟩ (.cons ⟨_, rfl⟩ (.cons ⟨_, rfl⟩ (.cons ⟨_, rfl⟩ (.cons ⟨_, rfl⟩ (.cons ⟨_, rfl⟩ .nil)))))))) (by decide)⟩
  have g_RANGES : KD K w mg "RANGES" [("bit", .t [.int 0, .int 1]), ("small", .t [.int (-128), .int 127]), ("wide", .t [.int (-32768), .int 32767])] := kd_of (PySem.W.mg_of X G kg1) kl1 kk1 ko1 (.cons ⟨⟨_, rfl⟩, ⟨.ref kv1_0, rfl, _, rfl, sqT_lit kw1_0 (.cons ⟨_, rfl⟩ (.cons ⟨_, rfl⟩ .nil)) (by decide)⟩⟩ (.cons ⟨⟨_, rfl⟩, ⟨.ref kv1_1, rfl, _, rfl, sqT_lit kw1_1 (.cons ⟨_, rfl⟩ (.cons ⟨_, rfl⟩ .nil)) (by decide)⟩⟩ (.cons ⟨⟨_, rfl⟩, ⟨.ref kv1_2, rfl, _, rfl, sqT_lit kw1_2 (.cons ⟨_, rfl⟩ (.cons ⟨_, rfl⟩ .nil)) (by decide)⟩⟩ .nil)))
  have g_MEASURES : ∃ T, mg "MEASURES" = some (.ref T) ∧ ∀ H, SqT K H T [.str "square", .str "dot", .str "bits"] := ⟨_, PySem.W.mg_of X G kg2, sqT_lit kl2 (.cons ⟨_, rfl⟩ (.cons ⟨_, rfl⟩ (.cons ⟨_, rfl⟩ .nil))) (by decide)⟩
  have g_KINDS : ∃ T, mg "KINDS" = some (.ref T) ∧ ∀ H, SqT K H T [.str "integer", .str "text", .str "flag"] := ⟨_, PySem.W.mg_of X G kg3, sqT_lit kl3 (.cons ⟨_, rfl⟩ (.cons ⟨_, rfl⟩ (.cons ⟨_, rfl⟩ .nil))) (by decide)⟩
  have E_InvalidSchema : ExcF K mg (cEnv C0 C1 C2 C3 C4) "InvalidSchema" := ⟨xq0, PySem.W.mg_of X G b0, kc0, xb0, xt0⟩
  have E_InvalidRecord : ExcF K mg (cEnv C0 C1 C2 C3 C4) "InvalidRecord" := ⟨xq2, PySem.W.mg_of X G b2, kc2, xb2, xt2⟩
  have N_InvalidRecord : mg "InvalidRecord" = some (.ref ((cEnv C0 C1 C2 C3 C4).cls "InvalidRecord")) := PySem.W.mg_of X G b2
  have T_InvalidRecord : ∀ y ∈ (["InvalidRecord", "InvalidSchema"] : List Str), PySem.W.exmOne K (.ref ((cEnv C0 C1 C2 C3 C4).cls y)) (.ref ((cEnv C0 C1 C2 C3 C4).cls "InvalidRecord")) = some (SUB y "InvalidRecord") := (List.forall_mem_cons.mpr ⟨(by rw [show SUB "InvalidRecord" "InvalidRecord" = true by decide +kernel]; exact exm_of xb2 xi2 xt2 xs2_2), (List.forall_mem_cons.mpr ⟨(by rw [show SUB "InvalidSchema" "InvalidRecord" = false by decide +kernel]; exact exm_of xb2 xi2 xt2 xs2_0), (fun _ h => nomatch h)⟩)⟩)
  have N_SurenearError : mg "SurenearError" = some (.ref ((cEnv C0 C1 C2 C3 C4).cls "SurenearError")) := PySem.W.mg_of X G b3
  have T_SurenearError : ∀ y ∈ (["InvalidRecord", "InvalidSchema"] : List Str), PySem.W.exmOne K (.ref ((cEnv C0 C1 C2 C3 C4).cls y)) (.ref ((cEnv C0 C1 C2 C3 C4).cls "SurenearError")) = some (SUB y "SurenearError") := (List.forall_mem_cons.mpr ⟨(by rw [show SUB "InvalidRecord" "SurenearError" = true by decide +kernel]; exact exm_of xb3 xi3 xt3 xs3_2), (List.forall_mem_cons.mpr ⟨(by rw [show SUB "InvalidSchema" "SurenearError" = true by decide +kernel]; exact exm_of xb3 xi3 xt3 xs3_0), (fun _ h => nomatch h)⟩)⟩)
  have F0 := fun_mk (st := s_law_row) l0 c0 k0
  have F1 := fun_mk (st := s_law_next) l1 c1 k1
  have F2 := fun_mk (st := s_law_fields) l2 c2 k2
  have F3 := fun_mk (st := s_law_schema) l3 c3 k3
  have F4 := fun_mk (st := s_is_letter) l4 c4 k4
  have F5 := fun_mk (st := s_is_digit) l5 c5 k5
  have F6 := fun_mk (st := s_is_field_name) l6 c6 k6
  have F7 := fun_mk (st := s_Schema_init) l7 c7 k7
  have F8 := fun_mk (st := s_law_number) l8 c8 k8
  have F9 := fun_mk (st := s_law_words) l9 c9 k9
  have F10 := fun_mk (st := s_law_value) l10 c10 k10
  have F11 := fun_mk (st := s_law_pairs) l11 c11 k11
  have F12 := fun_mk (st := s_law_name) l12 c12 k12
  have F13 := fun_mk (st := s_law_change) l13 c13 k13
  have F14 := fun_mk (st := s_Record_init) l14 c14 k14
  have F15 := fun_mk (st := s_law_kind) l15 c15 k15
  have F16 := fun_mk (st := s_law_fits) l16 c16 k16
  have F17 := fun_mk (st := s_Schema_least) l17 c17 k17
  have F18 := fun_mk (st := s_Schema_greatest) l18 c18 k18
  have F19 := fun_mk (st := s_Schema_has_vector) l19 c19 k19
  have F20 := fun_mk (st := s_kind_of_value) l20 c20 k20
  have F21 := fun_mk (st := s_Schema_has_fields) l21 c21 k21
  have F22 := fun_mk (st := s_words_fit) l22 c22 k22
  have F23 := fun_mk (st := s_Schema_contains) l23 c23 k23
  have F24 := fun_mk (st := s_Schema_check) l24 c24 k24
  have F25 := fun_mk (st := s_law_refused) l25 c25 k25
  have F26 := fun_mk (st := s_Record_value) l26 c26 k26
  have F27 := fun_mk (st := s_Record_count_of) l27 c27 k27
  have F28 := fun_mk (st := s_law_tells) l28 c28 k28
  have F29 := fun_mk (st := s_law) l29 c29 k29
  have O_Schema : ClsOk K (cEnv C0 C1 C2 C3 C4) "Schema" ["size", "width", "measure", "fields"] := ⟨⟨pg1, hd1, po1, sa1⟩, na_of (List.forall_mem_cons.mpr ⟨n1_0, (List.forall_mem_cons.mpr ⟨n1_1, (List.forall_mem_cons.mpr ⟨n1_2, (List.forall_mem_cons.mpr ⟨n1_3, (fun _ h => nomatch h)⟩)⟩)⟩)⟩), ha1, hn, htk, hm1, (fun _ h => nomatch h), (fun _ h => nomatch h)⟩
  have C_Schema : ClsF K mg (cEnv C0 C1 C2 C3 C4) "Schema" ["size", "width", "measure", "fields"] := ⟨O_Schema, fun h => absurd h (by show _ ∉ ([] : List Str); decide +kernel), PySem.W.mg_of X G b1⟩
  have O_Record : ClsOk K (cEnv C0 C1 C2 C3 C4) "Record" ["name", "vector", "fields", "words"] := ⟨⟨pg4, hd4, po4, sa4⟩, na_of (List.forall_mem_cons.mpr ⟨n4_0, (List.forall_mem_cons.mpr ⟨n4_1, (List.forall_mem_cons.mpr ⟨n4_2, (List.forall_mem_cons.mpr ⟨n4_3, (fun _ h => nomatch h)⟩)⟩)⟩)⟩), ha4, hn, htk, hm4, (fun _ h => nomatch h), (fun _ h => nomatch h)⟩
  have C_Record : ClsF K mg (cEnv C0 C1 C2 C3 C4) "Record" ["name", "vector", "fields", "words"] := ⟨O_Record, fun h => absurd h (by show _ ∉ ([] : List Str); decide +kernel), PySem.W.mg_of X G b4⟩
  refine ⟨PySem.W.fnOf "law" "law" (defArgs s_law) (defBody s_law) (defScope s_law) .none kV29 dc29 pm29 an29 cd29 ct29, fun s v => .of_eq rfl, fun base _ _ => ?_⟩
  have D_law_row : Dfn l.prog w K mg base 1 "_law_row" ["_law_script", "_law_k"] (sp_law_row K) := ⟨_, _, PySem.W.mg_of X G a0, F0.kp, F0.binds (ps := ["_law_script", "_law_k"]) (fun _ _ _ _ _ _ us hl => match us, hl with | [_, _], _ => rfl), ok_law_row m_len m_int F0⟩
  have D_law_next : Dfn l.prog w K mg base 2 "_law_next" ["_law_state", "_law_many"] (sp_law_next K) := ⟨_, _, PySem.W.mg_of X G a1, F1.kp, F1.binds (ps := ["_law_state", "_law_many"]) (fun _ _ _ _ _ _ us hl => match us, hl with | [_, _], _ => rfl), ok_law_next D_law_row m_int F1⟩
  have D_law_fields : Dfn l.prog w K mg base 3 "_law_fields" ["_law_state"] (sp_law_fields K) := ⟨_, _, PySem.W.mg_of X G a2, F2.kp, F2.binds (ps := ["_law_state"]) (fun _ _ _ _ _ _ us hl => match us, hl with | [_], _ => rfl), ok_law_fields D_law_next m_range F2⟩
  have D_law_schema : Dfn l.prog w K mg base 4 "_law_schema" ["_law_state"] (sp_law_schema K) := ⟨_, _, PySem.W.mg_of X G a3, F3.kp, F3.binds (ps := ["_law_state"]) (fun _ _ _ _ _ _ us hl => match us, hl with | [_], _ => rfl), ok_law_schema D_law_next D_law_fields F3⟩
  have D_is_letter : Dfn l.prog w K mg base 1 "is_letter" ["sign"] (sp_is_letter K) := ⟨_, _, PySem.W.mg_of X G a4, F4.kp, F4.binds (ps := ["sign"]) (fun _ _ _ _ _ _ us hl => match us, hl with | [_], _ => rfl), ok_is_letter F4⟩
  have D_is_digit : Dfn l.prog w K mg base 1 "is_digit" ["sign"] (sp_is_digit K) := ⟨_, _, PySem.W.mg_of X G a5, F5.kp, F5.binds (ps := ["sign"]) (fun _ _ _ _ _ _ us hl => match us, hl with | [_], _ => rfl), ok_is_digit F5⟩
  have D_is_field_name : Dfn l.prog w K mg base 2 "is_field_name" ["name"] (sp_is_field_name K) := ⟨_, _, PySem.W.mg_of X G a6, F6.kp, F6.binds (ps := ["name"]) (fun _ _ _ _ _ _ us hl => match us, hl with | [_], _ => rfl), ok_is_field_name D_is_letter D_is_digit g_WORDS F6⟩
  have FD7 : FunD K "__init__" "Schema.__init__" (defArgs s_Schema_init) (defBody s_Schema_init) (defScope s_Schema_init) [] [("width", (.str "small")), ("measure", (.str "square")), ("fields", .ref kT7_fields)] f7 _ := ⟨⟨_, _, _, _, _, _, _, _, _, _, rfl, l7, c7, .inl ⟨rfl, rfl⟩, .inr ⟨kD7, rfl, (List.forall_mem_cons.mpr ⟨⟨_, kd7_width, ⟨_, rfl⟩⟩, (List.forall_mem_cons.mpr ⟨⟨_, kd7_measure, ⟨_, rfl⟩⟩, (List.forall_mem_cons.mpr ⟨⟨_, kd7_fields, rfl⟩, (fun _ h => nomatch h)⟩)⟩)⟩)⟩⟩, k7⟩
  have B_K_Schema_init_1_width_measure_fields := FunD.kbinds0 (ps := ["self", "size", "width", "measure", "fields"]) FD7 2 ["width", "measure", "fields"] [] (gSel [(true, 0), (true, 1), (true, 2)]) (by simp) (by simp) (fun r1 r2 r3 => gSel_rel [(true, 0), (true, 1), (true, 2)] r1 r2 r3) (fun D doc pm an cdv ct us mv ws h1 h2 h3 => match us, h1, mv, h2, ws, h3 with | [_, _], _, [], _, [_, _, _], _ => rfl)
  have K_Schema_init_1_width_measure_fields : MkrK (L2.CX l.prog w) l.prog w K mg base 3 ((cEnv C0 C1 C2 C3 C4).cls "Schema") ["self", "size", "width", "measure", "fields"] (sp_Schema_init K (cEnv C0 C1 C2 C3 C4)) 1 ["width", "measure", "fields"] [] [(true, 0), (true, 1), (true, 2)] := B_K_Schema_init_1_width_measure_fields.elim fun mv hb => ⟨_, _, _, _, ⟨mk1, a7, i7, kc1⟩, .nil, hb, ok_Schema_init E_InvalidSchema D_is_field_name m_tuple g_RANGES g_MEASURES g_KINDS F7⟩
  have D_law_number : Dfn l.prog w K mg base 3 "_law_number" ["_law_state", "_law_width"] (sp_law_number K) := ⟨_, _, PySem.W.mg_of X G a8, F8.kp, F8.binds (ps := ["_law_state", "_law_width"]) (fun _ _ _ _ _ _ us hl => match us, hl with | [_, _], _ => rfl), ok_law_number D_law_next m_max m_min F8⟩
  have D_law_words : Dfn l.prog w K mg base 3 "_law_words" ["_law_state"] (sp_law_words K) := ⟨_, _, PySem.W.mg_of X G a9, F9.kp, F9.binds (ps := ["_law_state"]) (fun _ _ _ _ _ _ us hl => match us, hl with | [_], _ => rfl), ok_law_words D_law_next F9⟩
  have D_law_value : Dfn l.prog w K mg base 3 "_law_value" ["_law_state", "_law_kind_here"] (sp_law_value K) := ⟨_, _, PySem.W.mg_of X G a10, F10.kp, F10.binds (ps := ["_law_state", "_law_kind_here"]) (fun _ _ _ _ _ _ us hl => match us, hl with | [_, _], _ => rfl), ok_law_value D_law_next F10⟩
  have D_law_pairs : Dfn l.prog w K mg base 4 "_law_pairs" ["_law_state", "_law_fields_here"] (sp_law_pairs K) := ⟨_, _, PySem.W.mg_of X G a11, F11.kp, F11.binds (ps := ["_law_state", "_law_fields_here"]) (fun _ _ _ _ _ _ us hl => match us, hl with | [_, _], _ => rfl), ok_law_pairs D_law_next D_law_value F11⟩
  have D_law_name : Dfn l.prog w K mg base 3 "_law_name" ["_law_state"] (sp_law_name K) := ⟨_, _, PySem.W.mg_of X G a12, F12.kp, F12.binds (ps := ["_law_state"]) (fun _ _ _ _ _ _ us hl => match us, hl with | [_], _ => rfl), ok_law_name D_law_next F12⟩
  have D_law_change : Dfn l.prog w K mg base 3 "_law_change" ["_law_state", "_law_drawn", "_law_thing"] (sp_law_change K) := ⟨_, _, PySem.W.mg_of X G a13, F13.kp, F13.binds (ps := ["_law_state", "_law_drawn", "_law_thing"]) (fun _ _ _ _ _ _ us hl => match us, hl with | [_, _, _], _ => rfl), ok_law_change D_law_next m_len m_range F13⟩
  have FD14 : FunD K "__init__" "Record.__init__" (defArgs s_Record_init) (defBody s_Record_init) (defScope s_Record_init) [] [("fields", .ref kT14_fields), ("words", .ref kT14_words)] f14 _ := ⟨⟨_, _, _, _, _, _, _, _, _, _, rfl, l14, c14, .inl ⟨rfl, rfl⟩, .inr ⟨kD14, rfl, (List.forall_mem_cons.mpr ⟨⟨_, kd14_fields, rfl⟩, (List.forall_mem_cons.mpr ⟨⟨_, kd14_words, rfl⟩, (fun _ h => nomatch h)⟩)⟩)⟩⟩, k14⟩
  have B_K_Record_init_2_fields_words := FunD.kbinds0 (ps := ["self", "name", "vector", "fields", "words"]) FD14 3 ["fields", "words"] [] (gSel [(true, 0), (true, 1)]) (by simp) (by simp) (fun r1 r2 r3 => gSel_rel [(true, 0), (true, 1)] r1 r2 r3) (fun D doc pm an cdv ct us mv ws h1 h2 h3 => match us, h1, mv, h2, ws, h3 with | [_, _, _], _, [], _, [_, _], _ => rfl)
  have K_Record_init_2_fields_words : MkrK CX0 l.prog w K mg base 1 ((cEnv C0 C1 C2 C3 C4).cls "Record") ["self", "name", "vector", "fields", "words"] (sp_Record_init K (cEnv C0 C1 C2 C3 C4)) 2 ["fields", "words"] [] [(true, 0), (true, 1)] := B_K_Record_init_2_fields_words.elim fun mv hb => ⟨_, _, _, _, ⟨mk4, a14, i14, kc4⟩, .nil, hb, ok_Record_init m_tuple F14⟩
  have D_law_kind : Dfn l.prog w K mg base 1 "_law_kind" ["_law_worth"] (sp_law_kind K) := ⟨_, _, PySem.W.mg_of X G a15, F15.kp, F15.binds (ps := ["_law_worth"]) (fun _ _ _ _ _ _ us hl => match us, hl with | [_], _ => rfl), ok_law_kind m_bool m_isinstance m_str F15⟩
  have D_law_fits : Dfn l.prog w K mg base 2 "_law_fits" ["_law_drawn", "_law_name_here", "_law_vector", "_law_pairs_here", "_law_words_here"] (sp_law_fits K) := ⟨_, _, PySem.W.mg_of X G a16, F16.kp, F16.binds (ps := ["_law_drawn", "_law_name_here", "_law_vector", "_law_pairs_here", "_law_words_here"]) (fun _ _ _ _ _ _ us hl => match us, hl with | [_, _, _, _, _], _ => rfl), ok_law_fits D_law_kind m_len F16⟩
  have P_Schema_least : Prp l.prog w K mg base 1 ((cEnv C0 C1 C2 C3 C4).cls "Schema") "least" ["self"] (sp_Schema_least K (cEnv C0 C1 C2 C3 C4)) := ⟨_, _, _, ⟨a17, pa17, pb17, ⟨_, pc17⟩⟩, F17.binds (ps := ["self"]) (fun _ _ _ _ _ _ us hl => match us, hl with | [_], _ => rfl), ok_Schema_least g_RANGES F17⟩
  have P_Schema_greatest : Prp l.prog w K mg base 1 ((cEnv C0 C1 C2 C3 C4).cls "Schema") "greatest" ["self"] (sp_Schema_greatest K (cEnv C0 C1 C2 C3 C4)) := ⟨_, _, _, ⟨a18, pa18, pb18, ⟨_, pc18⟩⟩, F18.binds (ps := ["self"]) (fun _ _ _ _ _ _ us hl => match us, hl with | [_], _ => rfl), ok_Schema_greatest g_RANGES F18⟩
  have M_Schema_has_vector : Mth l.prog w K mg base 3 ((cEnv C0 C1 C2 C3 C4).cls "Schema") "has_vector" ["self", "vector"] (sp_Schema_has_vector K (cEnv C0 C1 C2 C3 C4)) := ⟨_, _, ⟨a19, i19, k19⟩, F19.binds (ps := ["self", "vector"]) (fun _ _ _ _ _ _ us hl => match us, hl with | [_, _], _ => rfl), ok_Schema_has_vector C_Schema P_Schema_least P_Schema_greatest m_len F19⟩
  have D_kind_of_value : Dfn l.prog w K mg base 1 "kind_of_value" ["worth"] (sp_kind_of_value K) := ⟨_, _, PySem.W.mg_of X G a20, F20.kp, F20.binds (ps := ["worth"]) (fun _ _ _ _ _ _ us hl => match us, hl with | [_], _ => rfl), ok_kind_of_value m_bool m_isinstance m_str F20⟩
  have M_Schema_has_fields : Mth l.prog w K mg base 2 ((cEnv C0 C1 C2 C3 C4).cls "Schema") "has_fields" ["self", "pairs"] (sp_Schema_has_fields K (cEnv C0 C1 C2 C3 C4)) := ⟨_, _, ⟨a21, i21, k21⟩, F21.binds (ps := ["self", "pairs"]) (fun _ _ _ _ _ _ us hl => match us, hl with | [_, _], _ => rfl), ok_Schema_has_fields D_kind_of_value m_len F21⟩
  have D_words_fit : Dfn l.prog w K mg base 1 "words_fit" ["words"] (sp_words_fit K) := ⟨_, _, PySem.W.mg_of X G a22, F22.kp, F22.binds (ps := ["words"]) (fun _ _ _ _ _ _ us hl => match us, hl with | [_], _ => rfl), ok_words_fit F22⟩
  have M_Schema_contains : Mth l.prog w K mg base 4 ((cEnv C0 C1 C2 C3 C4).cls "Schema") "__contains__" ["self", "record"] (sp_Schema_contains K (cEnv C0 C1 C2 C3 C4)) := ⟨_, _, ⟨a23, i23, k23⟩, F23.binds (ps := ["self", "record"]) (fun _ _ _ _ _ _ us hl => match us, hl with | [_, _], _ => rfl), ok_Schema_contains C_Schema M_Schema_has_vector M_Schema_has_fields D_words_fit F23⟩
  have M_Schema_check : MthX l.prog w K mg base 5 ((cEnv C0 C1 C2 C3 C4).cls "Schema") "check" ["self", "record"] (sp_Schema_check K (cEnv C0 C1 C2 C3 C4)) := ⟨_, _, ⟨a24, i24, k24⟩, F24.binds (ps := ["self", "record"]) (fun _ _ _ _ _ _ us hl => match us, hl with | [_, _], _ => rfl), ok_Schema_check E_InvalidRecord C_Schema M_Schema_contains F24⟩
  have D_law_refused : Dfn l.prog w K mg base 6 "_law_refused" ["_law_schema_here", "_law_record"] (sp_law_refused K (cEnv C0 C1 C2 C3 C4)) := ⟨_, _, PySem.W.mg_of X G a25, F25.kp, F25.binds (ps := ["_law_schema_here", "_law_record"]) (fun _ _ _ _ _ _ us hl => match us, hl with | [_, _], _ => rfl), ok_law_refused N_InvalidRecord T_InvalidRecord N_SurenearError T_SurenearError C_Schema M_Schema_check F25⟩
  have M_Record_value : Mth l.prog w K mg base 1 ((cEnv C0 C1 C2 C3 C4).cls "Record") "value" ["self", "name"] (sp_Record_value K (cEnv C0 C1 C2 C3 C4)) := ⟨_, _, ⟨a26, i26, k26⟩, F26.binds (ps := ["self", "name"]) (fun _ _ _ _ _ _ us hl => match us, hl with | [_, _], _ => rfl), ok_Record_value F26⟩
  have M_Record_count_of : Mth l.prog w K mg base 1 ((cEnv C0 C1 C2 C3 C4).cls "Record") "count_of" ["self", "word"] (sp_Record_count_of K (cEnv C0 C1 C2 C3 C4)) := ⟨_, _, ⟨a27, i27, k27⟩, F27.binds (ps := ["self", "word"]) (fun _ _ _ _ _ _ us hl => match us, hl with | [_, _], _ => rfl), ok_Record_count_of F27⟩
  have D_law_tells : Dfn l.prog w K mg base 2 "_law_tells" ["_law_record", "_law_thing"] (sp_law_tells K (cEnv C0 C1 C2 C3 C4)) := ⟨_, _, PySem.W.mg_of X G a28, F28.kp, F28.binds (ps := ["_law_record", "_law_thing"]) (fun _ _ _ _ _ _ us hl => match us, hl with | [_, _], _ => rfl), ok_law_tells C_Record M_Record_value M_Record_count_of m_tuple m_bool m_isinstance F28⟩
  exact ok_law C_Schema C_Record D_law_schema K_Schema_init_1_width_measure_fields D_law_number D_law_words D_law_pairs D_law_name D_law_next D_law_change K_Record_init_2_fields_words D_law_fits M_Schema_contains D_law_refused D_law_tells m_list m_range F29
theorem walk {l : PySem.W.OpenLaw} {q : Program} {loose : List Str} {XP : (Str → Option Value) → Heap → Prop} {YP : World → Heap → Prop} {d : DefRec} {K : Params → PySem.W.Frag} (hn : l.most = some 63) (hdf : d.params.defaults = [])
    (hY : ∀ (w : World) (h : Heap), YP w h → (K w.params).In h)
    (F : ∀ (w : World) (mg : Str → Option Value) (fa : Addr) (h : Heap), (K w.params).In h → h.Ns mainGlobals mg → mg d.name = some (.ref fa) →
      ∃ fd : FuncData, (∀ (s : Shared) (u : Value), BindsTo s fd ⟨[u], []⟩ [("_law_script", u)]) ∧ ∀ base : Heap, (K w.params).In base → base.Ns mainGlobals mg → FnOk l.prog w (K w.params) mg base CX0 7 fa fd ["_law_script"] (sp_law (K w.params))) :
    PySem.W.WalkO q loose XP YP l.row.toRowW d [] (fun f vs => PySem.call f vs) :=
  L2.walk_of (n := 63) (k := 7) (x := "_law_script") (CX := fun _ => CX0) (sp := fun w => sp_law (K w.params)) hn (by decide) hdf ⟨rfl, by decide, by decide⟩ hY F (fun _ _ a ns hl _ hS => ⟨a, ns, rfl, hS, hl, fun _ => rfl⟩) fun _ _ _ _ _ z => z
end Z
open PySem PySem.W PyProof.Rows
set_option maxRecDepth 100000 in
set_option maxHeartbeats 0 in
theorem PySem.Challenge.cw_surenear_k06_records_of_a_schema_holds : PySem.Challenge.rw_surenear_k06_records_of_a_schema.Holds := by
  w_on; o_law; k_head; (case hw => w_witness2)
  k_fill
  refine Z.walk (l := PySem.Challenge.rw_surenear_k06_records_of_a_schema) rfl rfl (fun w h Y => PySem.W.kIn_of Y) ?F
  case F =>
    intro w mg fa h KX G hmg
    refine' Z.all_mk KX G hmg ?b0 ?xq0 ?kc0 ?xb0 ?xt0 ?b1 ?pg1 ?hd1 ?po1 ?sa1 ?ha1 ?hm1 ?mk1 ?kc1 ?n1_0 ?n1_1 ?n1_2 ?n1_3 ?b2 ?xq2 ?kc2 ?xb2 ?xt2 ?xi2 ?xs2_2 ?xs2_0 ?b3 ?xb3 ?xt3 ?xi3 ?xs3_2 ?xs3_0 ?b4 ?pg4 ?hd4 ?po4 ?sa4 ?ha4 ?hm4 ?mk4 ?kc4 ?n4_0 ?n4_1 ?n4_2 ?n4_3 ?hn ?htk ?a0 ?l0 ?c0 ?k0 ?a1 ?l1 ?c1 ?k1 ?a2 ?l2 ?c2 ?k2 ?a3 ?l3 ?c3 ?k3 ?a4 ?l4 ?c4 ?k4 ?a5 ?l5 ?c5 ?k5 ?a6 ?l6 ?c6 ?k6 ?a7 ?i7 ?l7 ?c7 ?k7 ?a8 ?l8 ?c8 ?k8 ?a9 ?l9 ?c9 ?k9 ?a10 ?l10 ?c10 ?k10 ?a11 ?l11 ?c11 ?k11 ?a12 ?l12 ?c12 ?k12 ?a13 ?l13 ?c13 ?k13 ?a14 ?i14 ?l14 ?c14 ?k14 ?a15 ?l15 ?c15 ?k15 ?a16 ?l16 ?c16 ?k16 ?a17 ?pa17 ?pb17 ?pc17 ?l17 ?c17 ?k17 ?a18 ?pa18 ?pb18 ?pc18 ?l18 ?c18 ?k18 ?a19 ?i19 ?l19 ?c19 ?k19 ?a20 ?l20 ?c20 ?k20 ?a21 ?i21 ?l21 ?c21 ?k21 ?a22 ?l22 ?c22 ?k22 ?a23 ?i23 ?l23 ?c23 ?k23 ?a24 ?i24 ?l24 ?c24 ?k24 ?a25 ?l25 ?c25 ?k25 ?a26 ?i26 ?l26 ?c26 ?k26 ?a27 ?i27 ?l27 ?c27 ?k27 ?a28 ?l28 ?c28 ?k28 ?a29 ?l29 ?c29 ?k29 ?kd7_width ?kd7_measure ?kd7_fields ?kx7_fields ?kd14_fields ?kx14_fields ?kd14_words ?kx14_words ?z0 ?z1 ?z2 ?z3 ?z4 ?z5 ?z6 ?z7 ?z8 ?z9 ?kg0 ?kl0 ?kg1 ?kl1 ?kk1 ?ko1 ?kw1_0 ?kw1_1 ?kw1_2 ?kg2 ?kl2 ?kg3 ?kl3
    (case b0 => k_is)
    (case xq0 => k_exc)
    (case kc0 => k_is)
    (case xb0 => k_is)
    (case xt0 => k_is)
    (case b1 => k_is)
    (case pg1 => k_is)
    (case hd1 => k_is)
    (case po1 => k_is)
    (case sa1 => k_is)
    (case ha1 => k_is)
    (case hm1 => k_is)
    (case mk1 => k_is)
    (case kc1 => k_is)
    (case n1_0 => k_is)
    (case n1_1 => k_is)
    (case n1_2 => k_is)
    (case n1_3 => k_is)
    (case b2 => k_is)
    (case xq2 => k_exc)
    (case kc2 => k_is)
    (case xb2 => k_is)
    (case xt2 => k_is)
    (case xi2 => k_is)
    (case xs2_2 => k_is)
    (case xs2_0 => k_is)
    (case b3 => k_is)
    (case xb3 => k_is)
    (case xt3 => k_is)
    (case xi3 => k_is)
    (case xs3_2 => k_is)
    (case xs3_0 => k_is)
    (case b4 => k_is)
    (case pg4 => k_is)
    (case hd4 => k_is)
    (case po4 => k_is)
    (case sa4 => k_is)
    (case ha4 => k_is)
    (case hm4 => k_is)
    (case mk4 => k_is)
    (case kc4 => k_is)
    (case n4_0 => k_is)
    (case n4_1 => k_is)
    (case n4_2 => k_is)
    (case n4_3 => k_is)
    (case hn => k_is)
    (case htk => k_is)
    (case a0 => k_is)
    (case l0 => k_is)
    (case c0 => k_is)
    (case k0 => k_is)
    (case a1 => k_is)
    (case l1 => k_is)
    (case c1 => k_is)
    (case k1 => k_is)
    (case a2 => k_is)
    (case l2 => k_is)
    (case c2 => k_is)
    (case k2 => k_is)
    (case a3 => k_is)
    (case l3 => k_is)
    (case c3 => k_is)
    (case k3 => k_is)
    (case a4 => k_is)
    (case l4 => k_is)
    (case c4 => k_is)
    (case k4 => k_is)
    (case a5 => k_is)
    (case l5 => k_is)
    (case c5 => k_is)
    (case k5 => k_is)
    (case a6 => k_is)
    (case l6 => k_is)
    (case c6 => k_is)
    (case k6 => k_is)
    (case a7 => k_is)
    (case i7 => k_is)
    (case l7 => k_is)
    (case c7 => k_is)
    (case k7 => k_is)
    (case a8 => k_is)
    (case l8 => k_is)
    (case c8 => k_is)
    (case k8 => k_is)
    (case a9 => k_is)
    (case l9 => k_is)
    (case c9 => k_is)
    (case k9 => k_is)
    (case a10 => k_is)
    (case l10 => k_is)
    (case c10 => k_is)
    (case k10 => k_is)
    (case a11 => k_is)
    (case l11 => k_is)
    (case c11 => k_is)
    (case k11 => k_is)
    (case a12 => k_is)
    (case l12 => k_is)
    (case c12 => k_is)
    (case k12 => k_is)
    (case a13 => k_is)
    (case l13 => k_is)
    (case c13 => k_is)
    (case k13 => k_is)
    (case a14 => k_is)
    (case i14 => k_is)
    (case l14 => k_is)
    (case c14 => k_is)
    (case k14 => k_is)
    (case a15 => k_is)
    (case l15 => k_is)
    (case c15 => k_is)
    (case k15 => k_is)
    (case a16 => k_is)
    (case l16 => k_is)
    (case c16 => k_is)
    (case k16 => k_is)
    (case a17 => k_is)
    (case pa17 => k_is)
    (case pb17 => k_is)
    (case pc17 => k_is)
    (case l17 => k_is)
    (case c17 => k_is)
    (case k17 => k_is)
    (case a18 => k_is)
    (case pa18 => k_is)
    (case pb18 => k_is)
    (case pc18 => k_is)
    (case l18 => k_is)
    (case c18 => k_is)
    (case k18 => k_is)
    (case a19 => k_is)
    (case i19 => k_is)
    (case l19 => k_is)
    (case c19 => k_is)
    (case k19 => k_is)
    (case a20 => k_is)
    (case l20 => k_is)
    (case c20 => k_is)
    (case k20 => k_is)
    (case a21 => k_is)
    (case i21 => k_is)
    (case l21 => k_is)
    (case c21 => k_is)
    (case k21 => k_is)
    (case a22 => k_is)
    (case l22 => k_is)
    (case c22 => k_is)
    (case k22 => k_is)
    (case a23 => k_is)
    (case i23 => k_is)
    (case l23 => k_is)
    (case c23 => k_is)
    (case k23 => k_is)
    (case a24 => k_is)
    (case i24 => k_is)
    (case l24 => k_is)
    (case c24 => k_is)
    (case k24 => k_is)
    (case a25 => k_is)
    (case l25 => k_is)
    (case c25 => k_is)
    (case k25 => k_is)
    (case a26 => k_is)
    (case i26 => k_is)
    (case l26 => k_is)
    (case c26 => k_is)
    (case k26 => k_is)
    (case a27 => k_is)
    (case i27 => k_is)
    (case l27 => k_is)
    (case c27 => k_is)
    (case k27 => k_is)
    (case a28 => k_is)
    (case l28 => k_is)
    (case c28 => k_is)
    (case k28 => k_is)
    (case a29 => k_is)
    (case l29 => k_is)
    (case c29 => k_is)
    (case k29 => k_is)
    (case kd7_width => k_is)
    (case kd7_measure => k_is)
    (case kd7_fields => k_is)
    (case kx7_fields => k_is)
    (case kd14_fields => k_is)
    (case kx14_fields => k_is)
    (case kd14_words => k_is)
    (case kx14_words => k_is)
    (case z0 => k_is)
    (case z1 => k_is)
    (case z2 => k_is)
    (case z3 => k_is)
    (case z4 => k_is)
    (case z5 => k_is)
    (case z6 => k_is)
    (case z7 => k_is)
    (case z8 => k_is)
    (case z9 => k_is)
    (case kg0 => k_is)
    (case kl0 => k_is)
    (case kg1 => k_is)
    (case kl1 => k_is)
    (case kk1 => k_keys)
    (case ko1 => decide)
    (case kw1_0 => k_is)
    (case kw1_1 => k_is)
    (case kw1_2 => k_is)
    (case kg2 => k_is)
    (case kl2 => k_is)
    (case kg3 => k_is)
    (case kl3 => k_is)

