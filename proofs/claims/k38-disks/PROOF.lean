import PyProof.Rows.All
import Wide.All
import OpenK.AllK
import Wide.FinOn
import HandS.ForExc
import HandS.ForMost
import HandS.Wide
import HandS.IsInst
import HandS.TupAny
import HandS.Flow
import HandS.Codes
import HandS.Zip
import HandS.TupLe
import KE.GoesMore
import HandS.Property
import HandS.OwnEq
import HandS.Defaults
import HandS.MakeKwOnly
import HandS.More
import HandS.TryMany
import HandS.RaiseMore
import PySem.Challenge.RW_surenear_k38_disks_do_what_they_are_aske
set_option Elab.async false
set_option linter.all false
set_option maxRecDepth 100000
set_option maxHeartbeats 4000000
set_option exponentiation.threshold 100000
namespace Z
open PySem PySem.Spec L2
open C8 (tCut pss_cut)
/-! Z: one rule a construct, whatever the kinds of its values; and the steps of a reading. -/

/-! ### operators by the kinds of their values -/
def MulOk (i j : Int) : Prop := CMul i j ∨ CMulW i j
def uAdd (K : PySem.W.Frag) : R2 := fun x y H Q => match x, y with
  | .int i, .int j => Q (.int (i + j)) H
  | .str a, .str b => a.length + b.length ≤ sizeLine ∧ Q (.str (a ++ b)) H
  | .ref l, .ref b => rCat (.ref l) (.ref b) H Q ∨ rCatA K (.ref l) (.ref b) H Q
  | _, _ => False
def uSub : R2 := fun x y H Q => match x, y with
  | .int i, .int j => Q (.int (i - j)) H
  | _, _ => False
def uMul : R2 := fun x y H Q => match x, y with
  | .int i, .int j => MulOk i j ∧ Q (.int (i * j)) H
  | _, _ => False
def uDiv : R2 := fun x y H Q => match x, y with
  | .int i, .int j => CDivW i j ∧ Q (.int (i / j)) H
  | _, _ => False
def uMod : R2 := fun x y H Q => match x, y with
  | .int i, .int j => 0 < j ∧ Q (.int (i % j)) H
  | _, _ => False
def uPow : R2 := fun x y H Q => match x, y with
  | .int i, .int j => CPow i j ∧ Q (.int (i ^ j.toNat)) H
  | _, _ => False
def uNeg : V → Hp → VK → Prop := fun x H Q => match x with
  | .int i => Q (.int (-i)) H
  | _ => False
/-! tuples of numbers and texts, one before the other -/
def ltV1 : V → V → Bool
  | .int i, .int j => decide (i < j)
  | .str a, .str b => decide (a.cps.toList < b.cps.toList)
  | _, _ => false
def same1 : V → V → Bool
  | .int _, .int _ => true
  | .str _, .str _ => true
  | _, _ => false
def ltV2 (xs ys : List V) (j : Nat) : Bool := match xs[j]?, ys[j]? with | some u, some v => ltV1 u v | _, _ => false
def rLtP (K : PySem.W.Frag) (a b : Addr) (H : Hp) (Q : VK) : Prop := ∃ xs ys : List V, SqT K H a xs ∧ SqT K H b ys ∧ (∀ (j : Nat) (u v : V), xs[j]? = some u → ys[j]? = some v → same1 u v = true) ∧
  Q (.bl (Ob.lexAt (fun j => decide (xs[j]? = ys[j]?)) (ltV2 xs ys) (decide (xs.length < ys.length)) 0 (min xs.length ys.length))) H
def uLt (K : PySem.W.Frag) : R2 := fun x y H Q => match x, y with
  | .int i, .int j => Q (.bl (decide (i < j))) H
  | .str i, .str j => Q (.bl (decide (i.cps.toList < j.cps.toList))) H
  | .ref a, .ref b => rLtT K (.ref a) (.ref b) H Q ∨ rLtP K a b H Q
  | _, _ => False
def uLe : R2 := fun x y H Q => match x, y with
  | .int i, .int j => Q (.bl (decide (i ≤ j))) H
  | .str i, .str j => Q (.bl (!decide (j.cps.toList < i.cps.toList))) H
  | _, _ => False
def uGt : R2 := fun x y H Q => match x, y with
  | .int i, .int j => Q (.bl (decide (j < i))) H
  | .str i, .str j => Q (.bl (decide (j.cps.toList < i.cps.toList))) H
  | _, _ => False
def uGe : R2 := fun x y H Q => match x, y with
  | .int i, .int j => Q (.bl (decide (j ≤ i))) H
  | .str i, .str j => Q (.bl (!decide (i.cps.toList < j.cps.toList))) H
  | _, _ => False
/-! ### == of lists and tuples, place by place; the same object is equal to itself -/
def sameSq (K : PySem.W.Frag) (H : Hp) (a c : Addr) (xs ys : List V) : Prop := (SqT K H a xs ∧ SqT K H c ys) ∨ (SqL K H a xs ∧ SqL K H c ys)
def allB (xs ys : List V) (e : Nat → Bool) : Bool := (List.range (min xs.length ys.length)).all e && (xs.length == ys.length)
def EqB (K : PySem.W.Frag) (H : Hp) : Nat → V → V → Bool → Prop
  | 0 => fun x y b => (flatV x = true ∧ flatV y = true ∧ b = eqV x y) ∨ (∃ a, x = .ref a ∧ y = .ref a ∧ b = true)
  | n + 1 => fun x y b => EqB K H n x y b ∨ ∃ a c xs ys e, x = .ref a ∧ y = .ref c ∧ sameSq K H a c xs ys ∧ (∀ (i : Nat) (x y : V), xs[i]? = some x → ys[i]? = some y → EqB K H n x y (e i)) ∧ b = allB xs ys e
def rSqB (K : PySem.W.Frag) (a c : Addr) (H : Hp) (Q : Bool → Prop) : Prop := ∃ n xs ys e, n ≤ 16 ∧ sameSq K H a c xs ys ∧ (∀ (i : Nat) (x y : V), xs[i]? = some x → ys[i]? = some y → EqB K H n x y (e i)) ∧ Q (allB xs ys e)
theorem sq_both {X : Cx} {pins : List (Addr × Obj)} {σ : L2.St} {H : Hp} {s : Shared} {A : Around} {a c : Addr} {xs ys : List V} {e : Nat → Bool} (I : Inv X pins σ H s) (hu : A.units < cLine) (h : sameSq X.K H a c xs ys)
    (he : ∀ (i : Nat) (x y : V), xs[i]? = some x → ys[i]? = some y → ∀ u v, RelV x u → RelV y v → SeqAt.EqAt A.in1 s u v (e i)) : SeqAt.RcAt A s (.ref a) (.ref c) (allB xs ys e) ∧ SeqAt.RcNeAt A s (.ref a) (.ref c) (!allB xs ys e) := by
  have items : ∀ {us vs : List Value}, Vals xs us → Vals ys vs → ∀ (j : Nat) (h1 : j < us.toArray.size) (h2 : j < vs.toArray.size), SeqAt.EqAt A.in1 s us.toArray[j] vs.toArray[j] (e j) := by
    intro us vs r1 r2 j h1 h2
    have l1 := r1.length
    have l2 := r2.length
    have k1 : j < us.length := by simpa using h1
    have k2 : j < vs.length := by simpa using h2
    obtain ⟨u, eu, ru⟩ := Vals.get r1 (List.getElem?_eq_getElem (show j < xs.length by omega))
    obtain ⟨v, ev, rv⟩ := Vals.get r2 (List.getElem?_eq_getElem (show j < ys.length by omega))
    have z1 : us.toArray[j] = u := by rw [List.getElem?_eq_getElem k1] at eu; simpa using Option.some.inj eu
    have z2 : vs.toArray[j] = v := by rw [List.getElem?_eq_getElem k2] at ev; simpa using Option.some.inj ev
    rw [z1, z2]
    exact he j _ _ (List.getElem?_eq_getElem (show j < xs.length by omega)) (List.getElem?_eq_getElem (show j < ys.length by omega)) u v ru rv
  rcases h with ⟨ha, hc⟩ | ⟨ha, hc⟩
  · obtain ⟨us, r1, p1, _⟩ := I.tuple ha
    obtain ⟨vs, r2, p2, _⟩ := I.tuple hc
    have z : ((List.range (min us.toArray.size vs.toArray.size)).all e && us.toArray.size == vs.toArray.size) = allB xs ys e := by
      unfold allB
      rw [show us.toArray.size = xs.length by simpa using r1.length.symm, show vs.toArray.size = ys.length by simpa using r2.length.symm]
    refine ⟨?_, ?_⟩
    · rw [← z]; exact SeqAt.RcAt.tuples p1 p2 hu (items r1 r2)
    · rw [← z]; exact SeqAt.RcNeAt.tuples p1 p2 hu (items r1 r2)
  · obtain ⟨us, r1, p1, _⟩ := I.list ha
    obtain ⟨vs, r2, p2, _⟩ := I.list hc
    have n1 : us.toArray.size = xs.length := by simpa using r1.length.symm
    have n2 : vs.toArray.size = ys.length := by simpa using r2.length.symm
    by_cases hl : xs.length = ys.length
    · have z : (List.range us.toArray.size).all e = allB xs ys e := by
        unfold allB
        rw [n1, hl, Nat.min_self, beq_self_eq_true, Bool.and_true]
      refine ⟨?_, ?_⟩
      · rw [← z]; exact SeqAt.RcAt.lists p1.isList p2.isList (by omega) hu (items r1 r2)
      · rw [← z]; exact SeqAt.RcNeAt.lists p1.isList p2.isList (by omega) hu (items r1 r2)
    · have z : allB xs ys e = false := by unfold allB; simp [hl]
      have ne : (us.toArray.size != vs.toArray.size) = true := by rw [n1, n2]; simpa using hl
      rw [z]
      exact ⟨SeqAt.RcAt.lists_lengths p1.isList p2.isList ne hu, SeqAt.RcNeAt.lists_lengths p1.isList p2.isList ne hu⟩
theorem EqB.det {X : Cx} {pins : List (Addr × Obj)} {σ : L2.St} {H : Hp} {s : Shared} (I : Inv X pins σ H s) : ∀ (n : Nat) (x : V) (b : Bool), EqB X.K H n x x b → b = true
  | 0, x, b, h => by
    rcases h with ⟨fx, _, rfl⟩ | ⟨a, _, _, rfl⟩
    · cases x <;> first | (cases fx; done) | (simp [eqV]; done)
    · rfl
  | n + 1, x, b, h => by
    rcases h with h | ⟨a, c, xs, ys, e, rfl, e2, hs, he, rfl⟩
    · exact EqB.det I n x b h
    · cases e2
      have z : xs = ys := by
        rcases hs with ⟨h1, h2⟩ | ⟨h1, h2⟩
        · exact I.tuple_inj h1 h2
        · exact I.list_inj h1 h2
      subst z
      unfold allB
      rw [Nat.min_self, beq_self_eq_true, Bool.and_true, List.all_eq_true]
      intro i hi
      have hi := List.mem_range.mp hi
      exact EqB.det I n _ _ (he i _ _ (List.getElem?_eq_getElem hi) (List.getElem?_eq_getElem hi))
theorem EqB.at {X : Cx} {pins : List (Addr × Obj)} {σ : L2.St} {H : Hp} {s : Shared} (I : Inv X pins σ H s) : ∀ (n : Nat) (x y : V) (b : Bool) (u v : Value) (A : Around), A.units + n < cLine → EqB X.K H n x y b → RelV x u → RelV y v → SeqAt.EqAt A s u v b
  | 0, x, y, b, u, v, A, _, h, rx, ry => by
    rcases h with ⟨fx, fy, rfl⟩ | ⟨a, rfl, rfl, rfl⟩
    · exact eqAt_V rx ry fx fy
    · cases rx; cases ry; exact SeqAt.EqAt.same _
  | n + 1, x, y, b, u, v, A, hu, h, rx, ry => by
    rcases h with h | ⟨a, c, xs, ys, e, rfl, rfl, hs, he, hb⟩
    · exact EqB.at I n x y b u v A (by omega) h rx ry
    · cases rx; cases ry
      by_cases q : a = c
      · subst q
        rw [EqB.det I (n + 1) (.ref a) b (.inr ⟨a, a, xs, ys, e, rfl, rfl, hs, he, hb⟩)]; exact SeqAt.EqAt.same _
      · rw [hb]
        refine SeqAt.EqAt.of_refs q (sq_both I (by omega) hs fun i x y e1 e2 u v r1 r2 => EqB.at I n x y (e i) u v A.in1 ?_ (he i x y e1 e2) r1 r2).1
        show A.units + 1 + n < cLine
        omega
theorem op_sqB {X : Cx} (hu : X.A.units + 64 < cLine) {pins : List (Addr × Obj)} {σ : L2.St} {H : Hp} {s : Shared} {a c : Addr} {Q : VK} (I : Inv X pins σ H s) :
    (rSqB X.K a c H (fun b => Q (.bl b) H) → wpAny (model X.prog X.w) X.A (compareOp .Eq (.ref a) (.ref c)) (EP X pins σ Q) X.xe s) ∧ (rSqB X.K a c H (fun b => Q (.bl (!b)) H) → wpAny (model X.prog X.w) X.A (compareOp .NotEq (.ref a) (.ref c)) (EP X pins σ Q) X.xe s) := by
  have key : ∀ {n : Nat} {xs ys : List V} {e : Nat → Bool}, n ≤ 16 → sameSq X.K H a c xs ys → (∀ (i : Nat) (x y : V), xs[i]? = some x → ys[i]? = some y → EqB X.K H n x y (e i)) → _ := fun {n xs ys e} hn hs he => sq_both (A := X.A) I (by omega) hs fun i x y e1 e2 u v r1 r2 => EqB.at I n x y (e i) u v X.A.in1 (by show X.A.units + 1 + n < cLine; omega) (he i x y e1 e2) r1 r2
  refine ⟨fun ⟨n, xs, ys, e, hn, hs, he, q⟩ => ?_, fun ⟨n, xs, ys, e, hn, hs, he, q⟩ => ?_⟩
  · exact (key hn hs he).1 X.prog X.w X.xe _ ⟨.bl _, H, I, rfl, q⟩
  · exact (key hn hs he).2 X.prog X.w X.xe _ ⟨.bl _, H, I, rfl, q⟩
def uEq (K : PySem.W.Frag) : R2 := fun x y H Q => match x, y with
  | .int i, .int j => Q (.bl (decide (i = j))) H
  | .str i, .str j => Q (.bl (decide (i = j))) H
  | .bl i, .bl j => Q (.bl (decide (i = j))) H
  | .non, .non => Q (.bl true) H
  | .ref a, .ref b => rEqD K (.ref a) (.ref b) H Q ∨ rSqB K a b H (fun k => Q (.bl k) H)
  | x, y => (scal x y = true ∧ Q (.bl (decide (x = y))) H) ∨ rEqD K x y H Q
def uNe (K : PySem.W.Frag) : R2 := fun x y H Q => match x, y with
  | .int i, .int j => Q (.bl (!decide (i = j))) H
  | .str i, .str j => Q (.bl (!decide (i = j))) H
  | .bl i, .bl j => Q (.bl (!decide (i = j))) H
  | .non, .non => Q (.bl false) H
  | .ref a, .ref b => rNeD K (.ref a) (.ref b) H Q ∨ rSqB K a b H (fun k => Q (.bl (!k)) H)
  | x, y => (scal x y = true ∧ Q (.bl (!decide (x = y))) H) ∨ rNeD K x y H Q
def uIs : R2 := fun x y H Q => match x, y with
  | x, .non => Q (.bl (decide (x = .non))) H
  | .bl a, .bl b => Q (.bl (decide (a = b))) H
  | _, _ => False
def uIsNot : R2 := fun x y H Q => match x, y with
  | x, .non => Q (.bl (!decide (x = .non))) H
  | .bl a, .bl b => Q (.bl (!decide (a = b))) H
  | _, _ => False
def uIn (K : PySem.W.Frag) : R2 := fun x y H Q => match x, y with
  | .str i, .str j => Q (.bl (!(Builtin.Str.occurrences j i 0 j.length 1).isEmpty)) H
  | x, y => rIn K false x y H Q
def uNotIn (K : PySem.W.Frag) : R2 := fun x y H Q => match x, y with
  | .str i, .str j => Q (.bl (!(!(Builtin.Str.occurrences j i 0 j.length 1).isEmpty))) H
  | x, y => rIn K true x y H Q

section
variable {X : Cx}
theorem op_uAdd : OpR X (binaryOp .Add) (uAdd X.K) := by
  intro pins s σ H x y v u Q I rx ry h
  cases x <;> cases y <;> first | exact h.elim | skip
  · exact op_add pins s σ H _ _ _ _ Q I rx ry ⟨_, _, rfl, rfl, h⟩
  · exact op_add_str pins s σ H _ _ _ _ Q I rx ry ⟨_, _, rfl, rfl, h.1, h.2⟩
  · rcases h with h | h
    · exact op_cat pins s σ H _ _ _ _ Q I rx ry h
    · exact op_catA pins s σ H _ _ _ _ Q I rx ry h
theorem op_uSub : OpR X (binaryOp .Sub) uSub := by
  intro pins s σ H x y v u Q I rx ry h
  cases x <;> cases y <;> first | exact h.elim | skip
  exact op_sub pins s σ H _ _ _ _ Q I rx ry ⟨_, _, rfl, rfl, h⟩
theorem op_uMul : OpR X (binaryOp .Mult) uMul := by
  intro pins s σ H x y v u Q I rx ry h
  cases x <;> cases y <;> first | exact h.elim | skip
  rcases h with ⟨h | h, q⟩
  · exact op_mul pins s σ H _ _ _ _ Q I rx ry ⟨_, _, rfl, rfl, h, q⟩
  · exact op_mulW pins s σ H _ _ _ _ Q I rx ry ⟨_, _, rfl, rfl, h, q⟩
theorem op_uDiv : OpR X (binaryOp .FloorDiv) uDiv := by
  intro pins s σ H x y v u Q I rx ry h
  cases x <;> cases y <;> first | exact h.elim | skip
  exact op_fdivW pins s σ H _ _ _ _ Q I rx ry ⟨_, _, rfl, rfl, h.1, h.2⟩
theorem op_uMod : OpR X (binaryOp .Mod) uMod := by
  intro pins s σ H x y v u Q I rx ry h
  cases x <;> cases y <;> first | exact h.elim | skip
  exact op_mod pins s σ H _ _ _ _ Q I rx ry ⟨_, _, rfl, rfl, h.1, h.2⟩
theorem op_uPow : OpR X (binaryOp .Pow) uPow := by
  intro pins s σ H x y v u Q I rx ry h
  cases x <;> cases y <;> first | exact h.elim | skip
  exact op_pow pins s σ H _ _ _ _ Q I rx ry ⟨_, _, rfl, rfl, h.1, h.2⟩
theorem un_uNeg : UnR X (unaryOp .USub) uNeg := by
  intro pins s σ H x v Q I rx h
  cases x <;> first | exact h.elim | skip
  exact un_neg pins s σ H _ _ Q I rx ⟨_, rfl, h⟩
theorem op_ltP (hu : X.A.units < cLine) {pins : List (Addr × Obj)} {s : Shared} {σ : L2.St} {H : Hp} {a b : Addr} {Q : VK} (I : Inv X pins σ H s) (h : rLtP X.K a b H Q) :
    wpAny (model X.prog X.w) X.A (compareOp .Lt (.ref a) (.ref b)) (EP X pins σ Q) X.xe s := by
  obtain ⟨xs, ys, ha, hb, hk, q⟩ := h
  obtain ⟨us, r1, p1, _⟩ := I.tuple ha
  obtain ⟨vs, r2, p2, _⟩ := I.tuple hb
  have l1 := r1.length
  have l2 := r2.length
  have both : ∀ (j : Nat) (h1 : j < us.toArray.size) (h2 : j < vs.toArray.size), ∃ x y : V, xs[j]? = some x ∧ ys[j]? = some y ∧ RelV x us.toArray[j] ∧ RelV y vs.toArray[j] := by
    intro j h1 h2
    have k1 : j < us.length := by simpa using h1
    have k2 : j < vs.length := by simpa using h2
    obtain ⟨u, eu, ru⟩ := Vals.get r1 (List.getElem?_eq_getElem (show j < xs.length by omega))
    obtain ⟨v, ev, rv⟩ := Vals.get r2 (List.getElem?_eq_getElem (show j < ys.length by omega))
    refine ⟨_, _, List.getElem?_eq_getElem (show j < xs.length by omega), List.getElem?_eq_getElem (show j < ys.length by omega), ?_, ?_⟩
    · rw [List.getElem?_eq_getElem k1] at eu
      have : us.toArray[j] = u := by simpa using Option.some.inj eu
      rw [this]; exact ru
    · rw [List.getElem?_eq_getElem k2] at ev
      have : vs.toArray[j] = v := by simpa using Option.some.inj ev
      rw [this]; exact rv
  have R := Ob.RcOp.tuples_lt (A := X.A) (s := s) (e := fun j => decide (xs[j]? = ys[j]?)) (r := ltV2 xs ys) p1 p2 hu (fun j h1 h2 => by
    obtain ⟨x, y, ex, ey, rx, ry⟩ := both j h1 h2
    have k := hk j x y ex ey
    rw [ex, ey]
    cases x <;> cases y <;> first | exact Bool.noConfusion (show false = true from k) | skip
    · rename_i i i'
      obtain ⟨t, et⟩ := rx
      obtain ⟨t', et'⟩ := ry
      rw [et, et', show decide (some (V.int i) = some (V.int i')) = (i == i') by rw [Bool.eq_iff_iff]; simp]
      exact SeqAt.EqAt.int_int _ _ _ _
    · rename_i i i'
      obtain ⟨t, et⟩ := rx
      obtain ⟨t', et'⟩ := ry
      rw [et, et', show decide (some (V.str i) = some (V.str i')) = (i == i') by rw [Bool.eq_iff_iff]; simp]
      exact SeqAt.EqAt.str_str _ _ _ _) (fun j h1 h2 _ => by
    obtain ⟨x, y, ex, ey, rx, ry⟩ := both j h1 h2
    have k := hk j x y ex ey
    rw [show ltV2 xs ys j = ltV1 x y by unfold ltV2; rw [ex, ey]]
    cases x <;> cases y <;> first | exact Bool.noConfusion (show false = true from k) | skip
    · obtain ⟨t, et⟩ := rx
      obtain ⟨t', et'⟩ := ry
      rw [et, et']
      exact Ob.RcOp.lt_int _ _ _ _
    · obtain ⟨t, et⟩ := rx
      obtain ⟨t', et'⟩ := ry
      rw [et, et']
      exact fun _ _ _ _ h => PyProof.Rows.lt_str (by simpa [ltV1] using h))
  rw [show us.toArray.size = xs.length by simpa using l1.symm, show vs.toArray.size = ys.length by simpa using l2.symm] at R
  exact R X.prog X.w X.xe (EP X pins σ Q) ⟨.bl _, H, I, rfl, q⟩
theorem op_uLt (hu : X.A.units + 64 < cLine) : OpR X (compareOp .Lt) (uLt X.K) := by
  intro pins s σ H x y v u Q I rx ry h
  cases x <;> cases y <;> first | exact h.elim | skip
  · exact op_lt pins s σ H _ _ _ _ Q I rx ry ⟨_, _, rfl, rfl, h⟩
  · exact op_lt_str pins s σ H _ _ _ _ Q I rx ry ⟨_, _, rfl, rfl, h⟩
  · rcases h with h | h
    · exact op_ltT (by omega) pins s σ H _ _ _ _ Q I rx ry h
    · cases rx; cases ry; exact op_ltP (by omega) I h
theorem op_uLe : OpR X (compareOp .LtE) uLe := by
  intro pins s σ H x y v u Q I rx ry h
  cases x <;> cases y <;> first | exact h.elim | skip
  · exact op_le pins s σ H _ _ _ _ Q I rx ry ⟨_, _, rfl, rfl, h⟩
  · exact op_le_str pins s σ H _ _ _ _ Q I rx ry ⟨_, _, rfl, rfl, h⟩
theorem op_uGt : OpR X (compareOp .Gt) uGt := by
  intro pins s σ H x y v u Q I rx ry h
  cases x <;> cases y <;> first | exact h.elim | skip
  · exact op_gt pins s σ H _ _ _ _ Q I rx ry ⟨_, _, rfl, rfl, h⟩
  · exact op_gt_str pins s σ H _ _ _ _ Q I rx ry ⟨_, _, rfl, rfl, h⟩
theorem op_uGe : OpR X (compareOp .GtE) uGe := by
  intro pins s σ H x y v u Q I rx ry h
  cases x <;> cases y <;> first | exact h.elim | skip
  · exact op_ge pins s σ H _ _ _ _ Q I rx ry ⟨_, _, rfl, rfl, h⟩
  · exact op_ge_str pins s σ H _ _ _ _ Q I rx ry ⟨_, _, rfl, rfl, h⟩
theorem V_int_dec {i j : Int} : decide (V.int i = V.int j) = decide (i = j) := by
  rw [Bool.eq_iff_iff]; simp
theorem V_str_dec {i j : Str} : decide (V.str i = V.str j) = decide (i = j) := by
  rw [Bool.eq_iff_iff]; simp
theorem V_bl_dec {i j : Bool} : decide (V.bl i = V.bl j) = decide (i = j) := by
  rw [Bool.eq_iff_iff]; simp
theorem op_uEq (hu : X.A.units + 64 < cLine) : OpR X (compareOp .Eq) (uEq X.K) := by
  intro pins s σ H x y v u Q I rx ry h
  have gen : (scal x y = true ∧ Q (.bl (decide (x = y))) H) ∨ rEqD X.K x y H Q → _ := fun z => (op_eq.or (op_eqD hu)) pins s σ H x y v u Q I rx ry z
  cases x <;> cases y <;> first | exact gen h | skip
  · exact gen (.inl ⟨rfl, h⟩)
  · exact gen (.inl ⟨rfl, by rw [V_bl_dec]; exact h⟩)
  · exact gen (.inl ⟨rfl, by rw [V_int_dec]; exact h⟩)
  · exact gen (.inl ⟨rfl, by rw [V_str_dec]; exact h⟩)
  · rcases h with h | h
    · exact gen (.inr h)
    · cases rx; cases ry; exact (op_sqB hu I).1 h
theorem op_uNe (hu : X.A.units + 64 < cLine) : OpR X (compareOp .NotEq) (uNe X.K) := by
  intro pins s σ H x y v u Q I rx ry h
  have gen : (scal x y = true ∧ Q (.bl (!decide (x = y))) H) ∨ rNeD X.K x y H Q → _ := fun z => (op_ne.or (op_neD hu)) pins s σ H x y v u Q I rx ry z
  cases x <;> cases y <;> first | exact gen h | skip
  · exact gen (.inl ⟨rfl, h⟩)
  · exact gen (.inl ⟨rfl, by rw [V_bl_dec]; exact h⟩)
  · exact gen (.inl ⟨rfl, by rw [V_int_dec]; exact h⟩)
  · exact gen (.inl ⟨rfl, by rw [V_str_dec]; exact h⟩)
  · rcases h with h | h
    · exact gen (.inr h)
    · cases rx; cases ry; exact (op_sqB hu I).2 h
theorem op_uIs : OpR X (compareOp .Is) uIs := by
  intro pins s σ H x y v u Q I rx ry h
  cases y <;> first | (cases x <;> exact h.elim) | skip
  · exact op_isN pins s σ H _ _ _ _ Q I rx ry ⟨rfl, by cases x <;> exact h⟩
  · cases x <;> first | exact h.elim | skip
    exact op_is_bl pins s σ H _ _ _ _ Q I rx ry ⟨_, _, rfl, rfl, h⟩
theorem op_uIsNot : OpR X (compareOp .IsNot) uIsNot := by
  intro pins s σ H x y v u Q I rx ry h
  cases y <;> first | (cases x <;> exact h.elim) | skip
  · exact op_notN pins s σ H _ _ _ _ Q I rx ry ⟨rfl, by cases x <;> exact h⟩
  · cases x <;> first | exact h.elim | skip
    exact op_isnot_bl pins s σ H _ _ _ _ Q I rx ry ⟨_, _, rfl, rfl, h⟩
theorem op_uIn : OpR X (compareOp .In) (uIn X.K) := by
  intro pins s σ H x y v u Q I rx ry h
  cases x <;> cases y <;> first | exact op_in_str pins s σ H _ _ _ _ Q I rx ry ⟨_, _, rfl, rfl, h⟩ | exact op_in_seq pins s σ H _ _ _ _ Q I rx ry h
theorem op_uNotIn : OpR X (compareOp .NotIn) (uNotIn X.K) := by
  intro pins s σ H x y v u Q I rx ry h
  cases x <;> cases y <;> first | exact op_notin_str pins s σ H _ _ _ _ Q I rx ry ⟨_, _, rfl, rfl, h⟩ | exact op_notIn_seq pins s σ H _ _ _ _ Q I rx ry h
end

/-! ### items, lengths, kinds -/
def uIx (K : PySem.W.Frag) : R2 := fun x y H Q => match x, y with
  | .ref p, .int i => ∃ xs v, (SqL K H p xs ∨ SqT K H p xs) ∧ atI xs i = some v ∧ Q v H
  | .str z, .int i => ∃ c, z.length ≤ sizeLine ∧ atI z.cps.toList i = some c ∧ Q (.str ⟨#[c]⟩) H
  | _, _ => False
def uLen (K : PySem.W.Frag) : List V → Hp → VK → Prop := fun vs H Q => match vs with
  | [.ref p] => ∃ xs, (SqL K H p xs ∨ SqT K H p xs) ∧ Q (.int xs.length) H
  | [.str z] => z.length ≤ sizeLine ∧ Q (.int z.length) H
  | _ => False
def uInt : List V → Hp → VK → Prop := fun vs H Q => match vs with
  | [.int i] => Q (.int i) H
  | [.bl b] => Q (.int (if b then 1 else 0)) H
  | _ => False
def uMax : List V → Hp → VK → Prop := fun vs H Q => match vs with
  | [.int i, .int j] => Q (.int (if j > i then j else i)) H
  | _ => False
def uMin : List V → Hp → VK → Prop := fun vs H Q => match vs with
  | [.int i, .int j] => Q (.int (if j < i then j else i)) H
  | _ => False
def uAbs : List V → Hp → VK → Prop := fun vs H Q => match vs with
  | [.int i] => Q (.int (if i < 0 then -i else i)) H
  | _ => False
def uList (K : PySem.W.Frag) : List V → Hp → VK → Prop := fun vs H Q => match vs with
  | [.ref p] => ∃ xs, (SqL K H p xs ∨ SqT K H p xs) ∧ ∀ l, H l = none → Q (.ref l) (upd H l (.lst xs))
  | _ => False
def uTuple (K : PySem.W.Frag) : List V → Hp → VK → Prop := fun vs H Q => match vs with
  | [.ref p] => ∃ xs, (SqL K H p xs ∧ ∀ l, H l = none → Q (.ref l) (upd H l (.tup xs))) ∨ (SqT K H p xs ∧ Q (.ref p) H)
  | _ => False
/-- isinstance with one class -/
def uIsi (K : PySem.W.Frag) : List V → Hp → VK → Prop := fun vs H Q => match vs with
  | [x, c] => ∃ (t u : Value) (b : Bool), ClsV c u ∧ TyX K H x t ∧ PySem.W.kitOne K t u = some b ∧ Q (.bl b) H
  | _ => False
def tTru (K : PySem.W.Frag) (ta : TE) : TT := fun σ H Q => ta σ H fun x H' => ∃ k, TruV K x H' k ∧ Q k H'
def tCal (sp : Sp) (t : TA) : TE := fun σ H Q => t σ H fun vs H1 => sp vs H1 Q E0
section
variable {X : Cx}
theorem ix_uIx : IxR X (uIx X.K) := by
  intro ea eb pins s σ H x y v u Q I rx ry h hp
  cases x <;> cases y <;> first | exact h.elim | skip
  · obtain ⟨c, hz, ha, q⟩ := h
    exact ix_str ea eb pins s σ H _ _ _ _ Q I rx ry ⟨_, _, c, rfl, rfl, hz, ha, q⟩ hp
  · obtain ⟨xs, w, hl, ha, q⟩ := h
    rcases hl with hl | hl
    · exact ix_list ea eb pins s σ H _ _ _ _ Q I rx ry ⟨_, xs, _, w, rfl, rfl, hl, ha, q⟩ hp
    · exact ix_tup ea eb pins s σ H _ _ _ _ Q I rx ry ⟨_, xs, _, w, rfl, rfl, hl, ha, q⟩ hp
theorem call_uLen : CallR X (.builtin "len") (uLen X.K) := by
  intro pins s σ H vs us Q I r h
  rcases vs with _ | ⟨x, _ | ⟨y, t⟩⟩
  · exact h.elim
  · cases x <;> first | exact h.elim | skip
    · exact call_len pins s σ H _ _ Q I r ⟨_, _, rfl, ⟨h.1, rfl⟩, h.2⟩
    · obtain ⟨xs, hl, q⟩ := h
      refine call_len pins s σ H _ _ Q I r ⟨_, xs.length, rfl, ?_, q⟩
      rcases hl with hl | hl
      · exact .inl ⟨_, hl, rfl⟩
      · exact .inr ⟨_, hl, rfl⟩
  · cases x <;> exact h.elim
theorem call_uInt : CallR X (.type "int") uInt := by
  intro pins s σ H vs us Q I r h
  rcases vs with _ | ⟨x, _ | ⟨y, t⟩⟩
  · exact h.elim
  · cases x <;> first | exact h.elim | skip
    · exact call_int1 pins s σ H _ _ Q I r (.inr ⟨_, rfl, h⟩)
    · exact call_int1 pins s σ H _ _ Q I r (.inl ⟨_, rfl, h⟩)
  · cases x <;> exact h.elim
theorem call_uAbs : CallR X (.builtin "abs") uAbs := by
  intro pins s σ H vs us Q I r h
  rcases vs with _ | ⟨x, _ | ⟨y, t⟩⟩
  · exact h.elim
  · cases x <;> first | exact h.elim | skip
    exact call_abs pins s σ H _ _ Q I r ⟨_, rfl, h⟩
  · cases x <;> exact h.elim
theorem call_uMax (hc : X.calm = true) : CallR X (.builtin "max") uMax := by
  intro pins s σ H vs us Q I r h
  rcases vs with _ | ⟨x, _ | ⟨y, _ | ⟨z, t⟩⟩⟩
  · exact h.elim
  · cases x <;> exact h.elim
  · cases x <;> cases y <;> first | exact h.elim | skip
    exact call_max2 hc pins s σ H _ _ Q I r ⟨_, _, rfl, h⟩
  · cases x <;> cases y <;> exact h.elim
theorem call_uMin (hc : X.calm = true) : CallR X (.builtin "min") uMin := by
  intro pins s σ H vs us Q I r h
  rcases vs with _ | ⟨x, _ | ⟨y, _ | ⟨z, t⟩⟩⟩
  · exact h.elim
  · cases x <;> exact h.elim
  · cases x <;> cases y <;> first | exact h.elim | skip
    exact call_min2 hc pins s σ H _ _ Q I r ⟨_, _, rfl, h⟩
  · cases x <;> cases y <;> exact h.elim
theorem call_uList : CallR X (.type "list") (uList X.K) := by
  intro pins s σ H vs us Q I r h
  rcases vs with _ | ⟨x, _ | ⟨y, t⟩⟩
  · exact h.elim
  · cases x <;> first | exact h.elim | skip
    obtain ⟨xs, hl, q⟩ := h
    exact call_list_of pins s σ H _ _ Q I r ⟨_, xs, rfl, hl, q⟩
  · cases x <;> exact h.elim
theorem call_uTuple : CallR X (.type "tuple") (uTuple X.K) := by
  intro pins s σ H vs us Q I r h
  rcases vs with _ | ⟨x, _ | ⟨y, t⟩⟩
  · exact h.elim
  · cases x <;> first | exact h.elim | skip
    obtain ⟨xs, hl⟩ := h
    exact call_tuple_of pins s σ H _ _ Q I r ⟨_, xs, rfl, hl⟩
  · cases x <;> exact h.elim
theorem call_uIsi : CallR X (.builtin "isinstance") (uIsi X.K) := by
  intro pins s σ H vs us Q I r h
  rcases vs with _ | ⟨x, _ | ⟨y, _ | ⟨z, t⟩⟩⟩
  · exact h.elim
  · exact h.elim
  · obtain ⟨t, u, b, k, ty, e, q⟩ := h
    exact call_isi pins s σ H _ _ Q I r ⟨_, _, t, u, b, rfl, k, ty, e, q⟩
  · exact h.elim
theorem pt_u {a : Expr} {ta : TE} (ha : PE X a ta) (he : ∀ whole, isTrue a X.env whole = (do let v ← whole; standAt a.pos; holding [v] (truthy v)) := by intro _; rfl) : PT X a (tTru X.K ta) := pt_truth ha he
end

/-! ### a def of the text, as those who call it know it -/
structure Dfn (P : Program) (w : World) (K : PySem.W.Frag) (mg : Str → Option Value) (base : Heap) (k : Nat) (x : Str) (ps : List Str) (sp : Sp) : Prop where
  ex : ∃ (f : Addr) (fd : FuncData), mg x = some (.ref f) ∧ PySem.W.keepIn K (.ref f) = true ∧ Binds K fd ps [] ∧ FnOk P w K mg base CX0 k f fd ps sp
theorem nil_sp (sp : Sp) (t : TA) : tCall sp [] E0 t = tCal sp t := by
  funext σ H Q
  simp only [tCall, tCal, List.append_nil]
section
variable {X : Cx} {k : Nat} {x : Str} {ps : List Str} {sp : Sp} {p pos : Pos} {e : Expr} {es : List Expr} {t : TA}
theorem z_call (D : Dfn X.prog X.w X.K X.mg X.base k x ps sp) (hr : Room k X.A) (hg : Gl X x) (ha : PA X (e :: es) t) (hdb : (x == ("__debug__" : Str)) = false := by decide)
    (he : starEach (e :: es) X.env = (false, eval e X.env) :: starEach es X.env := by rfl) (hpl : (backTo pos (starEach es X.env)).any (·.1) = false := by rfl) : PE X (.Call (.Name x p) (e :: es) [] pos) (tCal sp t) := by
  obtain ⟨f, fd, hm, hk, hb, F⟩ := D.ex
  rw [← nil_sp]
  exact pe_call F hr hg hm hk hb .nil pass0 ha hdb he hpl
theorem z_call0 (D : Dfn X.prog X.w X.K X.mg X.base k x ps sp) (hr : Room k X.A) (hg : Gl X x) (hdb : (x == ("__debug__" : Str)) = false := by decide) : PE X (.Call (.Name x p) [] [] pos) (tCal sp tNil) := by
  obtain ⟨f, fd, hm, hk, hb, F⟩ := D.ex
  rw [← nil_sp]
  exact pe_call0 F hr hg hm hk hb .nil pass0 hdb
/-- a list or a tuple that is walked -/
def iSeq (K : PySem.W.Frag) (tl : TE) : TI := fun σ H R => iList K tl σ H R ∨ iTup K tl σ H R
theorem pi_seq {tg l : Expr} {tl : TE} (hl : PE X l tl) : PI X tg l (iSeq X.K tl) := by
  have h1 := pi_list (tg := tg) hl
  have h2 := pi_tup (tg := tg) hl
  refine ⟨fun pins s σ H R I h => ?_⟩
  rcases h with h | h
  · exact h1.run pins s σ H R I h
  · exact h2.run pins s σ H R I h
end

/-! ### the steps of a reading -/
def zNewL (xs : List V) (H : Hp) (Q : VK) : Prop := xs.length ≤ sizeLine ∧ ∀ p, H p = none → Q (.ref p) (upd H p (.lst xs))
def zNewT (xs : List V) (H : Hp) (Q : VK) : Prop := xs.length ≤ sizeLine ∧ ∀ p, H p = none → Q (.ref p) (upd H p (.tup xs))
section
variable {K : PySem.W.Frag} {σ : St} {H : Hp} {i : Nat} {v : V} {Q : VK} {QA : List V → Hp → Prop} {QB : Bool → Hp → Prop} {r : R2} {r1 : V → Hp → VK → Prop} {rl : List V → Hp → VK → Prop} {ta tb te : TE} {tr t : TA} {c u : TT} {sp : Sp} {xs : List V} {a b : Int} {x y : Str} {p q : Addr} {bb : Bool} {D : Ends} {t1 t2 : TS}
theorem z_var (h : σ[i]? = some (some v)) (k : Q v H) : tVar i σ H Q := ⟨v, h, k⟩
theorem z_c (k : Q v H) : tC v σ H Q := k
theorem z_op (k : ta σ H fun x H1 => tb σ H1 fun y H2 => r x y H2 Q) : tOp r ta tb σ H Q := k
theorem z_un (k : ta σ H fun x H1 => r1 x H1 Q) : tUn r1 ta σ H Q := k
theorem z_cb (k : t σ H fun vs H1 => rl vs H1 Q) : tCB rl t σ H Q := k
theorem z_cal (k : t σ H fun vs H1 => sp vs H1 Q E0) : tCal sp t σ H Q := k
theorem z_nil (k : QA [] H) : tNil σ H QA := k
theorem z_cons (k : ta σ H fun x H1 => tr σ H1 fun xs H2 => QA (x :: xs) H2) : tCons ta tr σ H QA := k
theorem z_lst (k : t σ H fun xs H1 => zNewL xs H1 Q) : tLst t σ H Q := k
theorem z_tup (k : t σ H fun xs H1 => zNewT xs H1 Q) : tTup t σ H Q := k
theorem z_newL (h : xs.length ≤ 100000) (k : ∀ p, H p = none → Q (.ref p) (upd H p (.lst xs))) : zNewL xs H Q := ⟨Nat.le_trans h (by decide), k⟩
theorem z_newT (h : xs.length ≤ 100000) (k : ∀ p, H p = none → Q (.ref p) (upd H p (.tup xs))) : zNewT xs H Q := ⟨Nat.le_trans h (by decide), k⟩
theorem z_test (k : te σ H fun x H' => ∃ k, x = .bl k ∧ QB k H') : tTest te σ H QB := k
theorem z_bl (k : QB bb H) : ∃ k, V.bl bb = .bl k ∧ QB k H := ⟨bb, rfl, k⟩
theorem z_tru (k : te σ H fun x H' => ∃ k, TruV K x H' k ∧ QB k H') : tTru K te σ H QB := k
theorem z_trub {P : Bool → Prop} (k : P bb) : ∃ k, TruV K (.bl bb) H k ∧ P k := ⟨bb, rfl, k⟩
theorem z_trui {P : Bool → Prop} (k : P (a != 0)) : ∃ k, TruV K (.int a) H k ∧ P k := ⟨_, rfl, k⟩
theorem z_and (k : c σ H fun b H1 => if b = true then u σ H1 QB else QB false H1) : tAnd c u σ H QB := k
theorem z_or (k : c σ H fun b H1 => if b = true then QB true H1 else u σ H1 QB) : tOr c u σ H QB := k
theorem z_not (k : c σ H fun b H1 => QB (!b) H1) : tNot c σ H QB := k
theorem z_andV (k : ta σ H fun x H1 => ∃ c, x = .bl c ∧ if c = true then tb σ H1 Q else Q (.bl false) H1) : tAndV ta tb σ H Q := k
theorem z_orV (k : ta σ H fun x H1 => ∃ c, x = .bl c ∧ if c = true then Q (.bl true) H1 else tb σ H1 Q) : tOrV ta tb σ H Q := k
theorem z_notV (k : ta σ H fun x H1 => ∃ c, x = .bl c ∧ Q (.bl (!c)) H1) : tNotV ta σ H Q := k
theorem z_if (k : c σ H fun b H1 => if b = true then ta σ H1 Q else tb σ H1 Q) : tIf c ta tb σ H Q := k
theorem z_bl1 {P : Bool → Prop} (k : P bb) : ∃ k, V.bl bb = .bl k ∧ P k := ⟨bb, rfl, k⟩
-- operators
theorem z_add (k : Q (.int (a + b)) H) : uAdd K (.int a) (.int b) H Q := k
theorem z_addS (h : x.length + y.length ≤ 100000) (k : Q (.str (x ++ y)) H) : uAdd K (.str x) (.str y) H Q := ⟨Nat.le_trans h (by decide), k⟩
theorem z_addL {xs ys : List V} (h1 : H p = some (.lst xs)) (h2 : H q = some (.lst ys)) (h : xs.length + ys.length ≤ 100000) (k : ∀ l, H l = none → Q (.ref l) (upd H l (.lst (xs ++ ys)))) : uAdd K (.ref p) (.ref q) H Q :=
  .inl ⟨p, q, xs, ys, rfl, rfl, h1, h2, Nat.le_trans h (by decide), k⟩
theorem z_sub (k : Q (.int (a - b)) H) : uSub (.int a) (.int b) H Q := k
theorem z_mul (h : MulOk a b) (k : Q (.int (a * b)) H) : uMul (.int a) (.int b) H Q := ⟨h, k⟩
theorem z_div (h : CDivW a b) (k : Q (.int (a / b)) H) : uDiv (.int a) (.int b) H Q := ⟨h, k⟩
theorem z_mod (h : 0 < b) (k : Q (.int (a % b)) H) : uMod (.int a) (.int b) H Q := ⟨h, k⟩
theorem z_pow (h : CPow a b) (k : Q (.int (a ^ b.toNat)) H) : uPow (.int a) (.int b) H Q := ⟨h, k⟩
theorem z_neg (k : Q (.int (-a)) H) : uNeg (.int a) H Q := k
theorem z_lt (k : Q (.bl (decide (a < b))) H) : uLt K (.int a) (.int b) H Q := k
theorem z_ltS (k : Q (.bl (decide (x.cps.toList < y.cps.toList))) H) : uLt K (.str x) (.str y) H Q := k
theorem z_ltIS {i j : Int} {x y : Str} (h1 : SqT K H p [.int i, .str x]) (h2 : SqT K H q [.int j, .str y]) (k : Q (.bl (if i = j then decide (x.cps.toList < y.cps.toList) else decide (i < j))) H) : uLt K (.ref p) (.ref q) H Q := by
  refine .inr ⟨_, _, h1, h2, ?_, ?_⟩
  · intro n u v hu hv
    match n with
    | 0 => cases hu; cases hv; rfl
    | 1 => cases hu; cases hv; rfl
    | n + 2 => cases hu
  · have e : Ob.lexAt (fun n => decide (([V.int i, .str x])[n]? = ([V.int j, .str y])[n]?)) (ltV2 [.int i, .str x] [.int j, .str y]) (decide (([V.int i, .str x] : List V).length < ([V.int j, .str y] : List V).length)) 0 (min ([V.int i, .str x] : List V).length ([V.int j, .str y] : List V).length) = (if i = j then decide (x.cps.toList < y.cps.toList) else decide (i < j)) := by
      show Ob.lexAt _ _ false 0 2 = _
      rw [Ob.lexAt_succ, Ob.lexAt_succ, Ob.lexAt_zero]
      by_cases h : i = j
      · subst h
        rw [if_pos (by simp), if_pos rfl]
        by_cases h2 : x = y
        · subst h2
          rw [if_pos (by simp), decide_eq_false (List.lt_irrefl _)]
        · rw [if_neg (by simp [h2])]; rfl
      · rw [if_neg (by simp [h]), if_neg h]; rfl
    rw [e]; exact k
theorem z_le (k : Q (.bl (decide (a ≤ b))) H) : uLe (.int a) (.int b) H Q := k
theorem z_leS (k : Q (.bl (!decide (y.cps.toList < x.cps.toList))) H) : uLe (.str x) (.str y) H Q := k
theorem z_gt (k : Q (.bl (decide (b < a))) H) : uGt (.int a) (.int b) H Q := k
theorem z_gtS (k : Q (.bl (decide (y.cps.toList < x.cps.toList))) H) : uGt (.str x) (.str y) H Q := k
theorem z_ge (k : Q (.bl (decide (b ≤ a))) H) : uGe (.int a) (.int b) H Q := k
theorem z_geS (k : Q (.bl (!decide (x.cps.toList < y.cps.toList))) H) : uGe (.str x) (.str y) H Q := k
theorem z_eq (k : Q (.bl (decide (a = b))) H) : uEq K (.int a) (.int b) H Q := k
theorem z_eqS (k : Q (.bl (decide (x = y))) H) : uEq K (.str x) (.str y) H Q := k
theorem z_eqB {a b : Bool} (k : Q (.bl (decide (a = b))) H) : uEq K (.bl a) (.bl b) H Q := k
theorem z_eqN (k : Q (.bl true) H) : uEq K .non .non H Q := k
theorem z_eqIS (k : Q (.bl false) H) : uEq K (.int a) (.str x) H Q := .inl ⟨rfl, by rw [decide_eq_false (by intro z; cases z)]; exact k⟩
theorem z_eqSI (k : Q (.bl false) H) : uEq K (.str x) (.int a) H Q := .inl ⟨rfl, by rw [decide_eq_false (by intro z; cases z)]; exact k⟩
theorem z_eqD {d e : PyData} (h1 : Dp K H (.ref p) d) (h2 : Dp K H (.ref q) e) (s1 : SeqAt.shaped d = true) (s2 : SeqAt.shaped e = true) (k : Q (.bl (PyData.eqv d e)) H) : uEq K (.ref p) (.ref q) H Q := .inl ⟨d, e, h1, h2, s1, s2, k⟩
theorem z_ne (k : Q (.bl (!decide (a = b))) H) : uNe K (.int a) (.int b) H Q := k
theorem z_neS (k : Q (.bl (!decide (x = y))) H) : uNe K (.str x) (.str y) H Q := k
theorem z_neB {a b : Bool} (k : Q (.bl (!decide (a = b))) H) : uNe K (.bl a) (.bl b) H Q := k
theorem z_neN (k : Q (.bl false) H) : uNe K .non .non H Q := k
theorem z_neIS (k : Q (.bl true) H) : uNe K (.int a) (.str x) H Q := .inl ⟨rfl, by rw [decide_eq_false (by intro z; cases z)]; exact k⟩
theorem z_neSI (k : Q (.bl true) H) : uNe K (.str x) (.int a) H Q := .inl ⟨rfl, by rw [decide_eq_false (by intro z; cases z)]; exact k⟩
theorem z_neD {d e : PyData} (h1 : Dp K H (.ref p) d) (h2 : Dp K H (.ref q) e) (s1 : SeqAt.shaped d = true) (s2 : SeqAt.shaped e = true) (k : Q (.bl (!PyData.eqv d e)) H) : uNe K (.ref p) (.ref q) H Q := .inl ⟨d, e, h1, h2, s1, s2, k⟩
theorem allB_true {xs ys : List V} {e : Nat → Bool} (hl : xs.length = ys.length) (h : ∀ i, i < xs.length → e i = true) : allB xs ys e = true := by
  unfold allB
  rw [← hl, Nat.min_self, beq_self_eq_true, Bool.and_true, List.all_eq_true]
  exact fun i hi => h i (List.mem_range.mp hi)
/-- surely equal -/
theorem z_eqSame {n : Nat} {xs ys : List V} (hn : n ≤ 16) (hs : sameSq K H p q xs ys) (hl : xs.length = ys.length) (he : ∀ (i : Nat) (x y : V), xs[i]? = some x → ys[i]? = some y → EqB K H n x y true) (k : Q (.bl true) H) : uEq K (.ref p) (.ref q) H Q :=
  .inr ⟨n, xs, ys, fun _ => true, hn, hs, he, by rw [allB_true hl fun _ _ => rfl]; exact k⟩
theorem z_neSame {n : Nat} {xs ys : List V} (hn : n ≤ 16) (hs : sameSq K H p q xs ys) (hl : xs.length = ys.length) (he : ∀ (i : Nat) (x y : V), xs[i]? = some x → ys[i]? = some y → EqB K H n x y true) (k : Q (.bl false) H) : uNe K (.ref p) (.ref q) H Q :=
  .inr ⟨n, xs, ys, fun _ => true, hn, hs, he, by rw [allB_true hl fun _ _ => rfl]; exact k⟩
theorem EqB.self : ∀ {v : V}, (flatV v = true ∨ ∃ a, v = .ref a) → EqB K H 0 v v true := by
  intro v h
  rcases h with h | ⟨a, rfl⟩
  · refine .inl ⟨h, h, ?_⟩
    cases v <;> first | (cases h; done) | (simp [eqV]; done)
  · exact .inr ⟨a, rfl, rfl, rfl⟩
theorem EqB.up {v w : V} {b : Bool} : ∀ {n m : Nat}, n ≤ m → EqB K H n v w b → EqB K H m v w b := by
  intro n m h e
  induction h with
  | refl => exact e
  | step _ ih => exact .inl ih
theorem EqB.sq {n : Nat} {a c : Addr} {xs ys : List V} (hs : sameSq K H a c xs ys) (hl : xs.length = ys.length) (he : ∀ (i : Nat) (x y : V), xs[i]? = some x → ys[i]? = some y → EqB K H n x y true) : EqB K H (n + 1) (.ref a) (.ref c) true :=
  .inr ⟨a, c, xs, ys, fun _ => true, rfl, rfl, hs, he, (allB_true hl fun _ _ => rfl).symm⟩
theorem EqB.str {x y : Str} : EqB K H 0 (.str x) (.str y) (decide (x = y)) := .inl ⟨rfl, rfl, by simp only [eqV]; rw [Bool.eq_iff_iff, decide_eq_true_iff, beq_iff_eq]⟩
theorem EqB.int {x y : Int} : EqB K H 0 (.int x) (.int y) (decide (x = y)) := .inl ⟨rfl, rfl, by simp only [eqV]; rw [Bool.eq_iff_iff, decide_eq_true_iff, beq_iff_eq]⟩
theorem EqB.of {n : Nat} {a c : Addr} {xs ys : List V} {e : Nat → Bool} {b : Bool} (hs : sameSq K H a c xs ys) (he : ∀ (i : Nat) (x y : V), xs[i]? = some x → ys[i]? = some y → EqB K H n x y (e i)) (hb : b = allB xs ys e) : EqB K H (n + 1) (.ref a) (.ref c) b := .inr ⟨a, c, xs, ys, e, rfl, rfl, hs, he, hb⟩
theorem z_eqOf {n : Nat} {xs ys : List V} {e : Nat → Bool} {b : Bool} (hn : n ≤ 16) (hs : sameSq K H p q xs ys) (he : ∀ (i : Nat) (x y : V), xs[i]? = some x → ys[i]? = some y → EqB K H n x y (e i)) (hb : b = allB xs ys e) (k : Q (.bl b) H) : uEq K (.ref p) (.ref q) H Q := .inr ⟨n, xs, ys, e, hn, hs, he, by rw [← hb]; exact k⟩
theorem z_neOf {n : Nat} {xs ys : List V} {e : Nat → Bool} {b : Bool} (hn : n ≤ 16) (hs : sameSq K H p q xs ys) (he : ∀ (i : Nat) (x y : V), xs[i]? = some x → ys[i]? = some y → EqB K H n x y (e i)) (hb : b = allB xs ys e) (k : Q (.bl (!b)) H) : uNe K (.ref p) (.ref q) H Q := .inr ⟨n, xs, ys, e, hn, hs, he, by rw [← hb]; exact k⟩
theorem z_is (k : Q (.bl (decide (v = .non))) H) : uIs v .non H Q := by cases v <;> exact k
theorem z_isNot (k : Q (.bl (!decide (v = .non))) H) : uIsNot v .non H Q := by cases v <;> exact k
theorem z_isB {a b : Bool} (k : Q (.bl (decide (a = b))) H) : uIs (.bl a) (.bl b) H Q := k
theorem z_isNotB {a b : Bool} (k : Q (.bl (!decide (a = b))) H) : uIsNot (.bl a) (.bl b) H Q := k
theorem z_in (h : SqL K H p xs ∨ SqT K H p xs) (hx : flatV v = true) (ha : xs.all flatV = true) (k : Q (.bl (inV v xs)) H) : uIn K v (.ref p) H Q := by
  cases v <;> exact ⟨p, xs, rfl, h, hx, ha, k⟩
theorem z_notIn (h : SqL K H p xs ∨ SqT K H p xs) (hx : flatV v = true) (ha : xs.all flatV = true) (k : Q (.bl (!inV v xs)) H) : uNotIn K v (.ref p) H Q := by
  cases v <;> exact ⟨p, xs, rfl, h, hx, ha, k⟩
theorem z_isbb {a : Bool} (k : Q (.bl true) H) : uIsi K [.bl a, .ty "bool"] H Q := ⟨_, _, true, .ty _, .base (.bl a), rfl, k⟩
theorem z_isbi {a : Bool} (k : Q (.bl true) H) : uIsi K [.bl a, .ty "int"] H Q := ⟨_, _, true, .ty _, .base (.bl a), rfl, k⟩
theorem z_isll (h : H p = some (.lst xs)) (k : Q (.bl true) H) : uIsi K [.ref p, .ty "list"] H Q := ⟨_, _, true, .ty _, .base (.lst h), rfl, k⟩
theorem z_istt (h : H p = some (.tup xs)) (k : Q (.bl true) H) : uIsi K [.ref p, .ty "tuple"] H Q := ⟨_, _, true, .ty _, .base (.tup h), rfl, k⟩
theorem z_chain {r r' : R2} {tc : TE} (k : ta σ H fun x H1 => tb σ H1 fun y H2 => r x y H2 fun z H3 => ∃ k, z = .bl k ∧ if k = true then tc σ H3 fun w H4 => r' y w H4 Q else Q (.bl false) H3) : tChain r r' ta tb tc σ H Q := k
-- items, built-ins
theorem z_ix (h : SqL K H p xs ∨ SqT K H p xs) (e : atI xs a = some v) (k : Q v H) : uIx K (.ref p) (.int a) H Q := ⟨xs, v, h, e, k⟩
theorem z_len (h : SqL K H p xs ∨ SqT K H p xs) (k : Q (.int xs.length) H) : uLen K [.ref p] H Q := ⟨xs, h, k⟩
theorem z_int (k : Q (.int a) H) : uInt [.int a] H Q := k
theorem z_max (k : Q (.int (if b > a then b else a)) H) : uMax [.int a, .int b] H Q := k
theorem z_min (k : Q (.int (if b < a then b else a)) H) : uMin [.int a, .int b] H Q := k
theorem z_abs (k : Q (.int (if a < 0 then -a else a)) H) : uAbs [.int a] H Q := k
theorem z_list (h : SqL K H p xs ∨ SqT K H p xs) (k : ∀ l, H l = none → Q (.ref l) (upd H l (.lst xs))) : uList K [.ref p] H Q := ⟨xs, h, k⟩
theorem z_tupleL (h : SqL K H p xs) (k : ∀ l, H l = none → Q (.ref l) (upd H l (.tup xs))) : uTuple K [.ref p] H Q := ⟨xs, .inl ⟨h, k⟩⟩
theorem z_tupleT (h : SqT K H p xs) (k : Q (.ref p) H) : uTuple K [.ref p] H Q := ⟨xs, .inr ⟨h, k⟩⟩
theorem z_isi {w : V} {t' u' : Value} (h1 : ClsV w u') (h2 : TyX K H v t') (h3 : PySem.W.kitOne K t' u' = some bb) (k : Q (.bl bb) H) : uIsi K [v, w] H Q := ⟨t', u', bb, h1, h2, h3, k⟩
theorem z_isii (k : Q (.bl true) H) : uIsi K [.int a, .ty "int"] H Q := ⟨_, _, true, .ty _, .base (.int a), rfl, k⟩
theorem z_isib (k : Q (.bl false) H) : uIsi K [.int a, .ty "bool"] H Q := ⟨_, _, false, .ty _, .base (.int a), rfl, k⟩
-- statements
theorem z_seq (k : t1 { D with nx := t2 D } σ H) : tSeq t1 t2 D σ H := k
theorem z_next (k : D.nx σ H) : tNext D σ H := k
theorem z_brk (k : D.bk σ H) : tBreak D σ H := k
theorem z_cont (k : D.ct σ H) : tCont D σ H := k
theorem z_ret (k : te σ H D.rt) : tRet te D σ H := k
theorem z_retN (k : D.rt .non H) : tRetN D σ H := k
theorem z_asg (k : te σ H fun x H1 => D.nx (σ.set i (some x)) H1) : tAsg te (gName i) D σ H := k
theorem z_drop (k : te σ H fun _ H1 => D.nx σ H1) : tDrop te D σ H := k
theorem z_ifS (k : c σ H fun b H1 => if b = true then t1 D σ H1 else t2 D σ H1) : tIfS c t1 t2 D σ H := k
theorem z_iteT {A B : Prop} (k : A) : if true = true then A else B := by rw [if_pos rfl]; exact k
theorem z_iteF {A B : Prop} (k : B) : if false = true then A else B := by rw [if_neg Bool.false_ne_true]; exact k
theorem z_iteT' {A B : Prop} (e : bb = true) (k : A) : if bb = true then A else B := by rw [if_pos e]; exact k
theorem z_iteF' {A B : Prop} (e : bb = false) (k : B) : if bb = true then A else B := by rw [if_neg (by rw [e]; exact Bool.false_ne_true)]; exact k
theorem z_ite {A B : Prop} (h1 : bb = true → A) (h2 : bb = false → B) : if bb = true then A else B := by
  cases bb with
  | true => rw [if_pos rfl]; exact h1 rfl
  | false => rw [if_neg Bool.false_ne_true]; exact h2 rfl
theorem z_itD {A B P : Prop} [Decidable P] (h1 : P → A) (h2 : ¬ P → B) : if decide P = true then A else B := by
  by_cases h : P
  · rw [if_pos (decide_eq_true h)]; exact h1 h
  · rw [if_neg (by rw [decide_eq_false h]; exact Bool.false_ne_true)]; exact h2 h
theorem z_itN {A B P : Prop} [Decidable P] (h1 : ¬ P → A) (h2 : P → B) : if (!decide P) = true then A else B := by
  by_cases h : P
  · rw [decide_eq_true h, if_neg (by decide)]; exact h2 h
  · rw [decide_eq_false h, if_pos (by decide)]; exact h1 h
-- loops
def zRng (g : TG) (tb : TS) (D : Ends) (σ : St) (lo : Int) (n : Nat) (H1 : Hp) : Prop := ∃ W : Nat → Nat → St → Hp → Prop, (∃ m, W 0 m σ H1) ∧ ∀ i m σ H, W i m σ H →
  ((Itr lo n).stop i H ∧ D.nx σ H) ∨ ((Itr lo n).go i H ∧ ∃ N : St → Hp → Prop, (∀ σ' H', N σ' H' → ∃ m', m' < m ∧ W (i + 1) m' σ' H') ∧ ∀ x H', (Itr lo n).yld i H x H' → g x σ H' fun σ2 H2 => tb { D with nx := N, ct := N, bk := D.nx } σ2 H2)
def zRng1 (g : TG) (tb : TS) (D : Ends) (σ : St) (vs : List V) (H1 : Hp) : Prop := ∃ j : Int, vs = [.int j] ∧ -(2 ^ 62) ≤ j ∧ j < 2 ^ 62 ∧ zRng g tb D σ 0 j.toNat H1
def zRng2 (g : TG) (tb : TS) (D : Ends) (σ : St) (vs : List V) (H1 : Hp) : Prop := ∃ i j : Int, vs = [.int i, .int j] ∧ (-(2 ^ 62) ≤ i ∧ i < 2 ^ 62 ∧ -(2 ^ 62) ≤ j ∧ j < 2 ^ 62) ∧ zRng g tb D σ i (j - i).toNat H1
def zIt (K : PySem.W.Frag) (g : TG) (tb : TS) (D : Ends) (σ : St) (v : V) (H1 : Hp) : Prop := ∃ a xs, v = .ref a ∧ ((SqL K H1 a xs ∧ ∃ W : Nat → Nat → St → Hp → Prop, (∃ m, W 0 m σ H1) ∧ ∀ i m σ H, W i m σ H →
  ((Itl K a).stop i H ∧ D.nx σ H) ∨ ((Itl K a).go i H ∧ ∃ N : St → Hp → Prop, (∀ σ' H', N σ' H' → ∃ m', m' < m ∧ W (i + 1) m' σ' H') ∧ ∀ x H', (Itl K a).yld i H x H' → g x σ H' fun σ2 H2 => tb { D with nx := N, ct := N, bk := D.nx } σ2 H2)) ∨
  (SqT K H1 a xs ∧ ∃ W : Nat → Nat → St → Hp → Prop, (∃ m, W 0 m σ H1) ∧ ∀ i m σ H, W i m σ H →
  ((Itt K a).stop i H ∧ D.nx σ H) ∨ ((Itt K a).go i H ∧ ∃ N : St → Hp → Prop, (∀ σ' H', N σ' H' → ∃ m', m' < m ∧ W (i + 1) m' σ' H') ∧ ∀ x H', (Itt K a).yld i H x H' → g x σ H' fun σ2 H2 => tb { D with nx := N, ct := N, bk := D.nx } σ2 H2)))
def iSq (K : PySem.W.Frag) (tl : TE) : TI := fun σ H R => tl σ H fun x H1 => ∃ a, x = .ref a ∧ (((∃ xs, SqL K H1 a xs) ∧ R (Itl K a) H1) ∨ ((∃ xs, SqT K H1 a xs) ∧ R (Itt K a) H1))
variable {g : TG} {ti : TS}
theorem z_for1 (k : t σ H fun vs H1 => zRng1 g ti D σ vs H1) : tFor (iRng1 t) g ti D σ H := k
theorem z_for2 (k : t σ H fun vs H1 => zRng2 g ti D σ vs H1) : tFor (iRng2 t) g ti D σ H := k
theorem z_rng1 {j : Int} (hb : j ≤ 1000000) (h : zRng g ti D σ 0 j.toNat H) (hb2 : -1000000 ≤ j) : zRng1 g ti D σ [.int j] H := ⟨j, rfl, by omega, by omega, h⟩
theorem z_rng2 {i j : Int} (h : zRng g ti D σ i (j - i).toNat H) (hb : -1000000 ≤ i ∧ i ≤ 1000000 ∧ -1000000 ≤ j ∧ j ≤ 1000000) : zRng2 g ti D σ [.int i, .int j] H := ⟨i, j, rfl, by omega, h⟩
/-- over a range: Pv by turns done, slots, heap -/
theorem z_rng {lo : Int} {n v : Nat} (Pv : Nat → St → Hp → Prop) (h0 : Pv 0 σ H)
    (hs : ∀ i σ H, i < n → Pv i σ H → ti { D with nx := Pv (i + 1), ct := Pv (i + 1), bk := D.nx } (σ.set v (some (.int (lo + i)))) H) (hd : ∀ σ H, Pv n σ H → D.nx σ H) : zRng (gName v) ti D σ lo n H :=
  for_range (g := gName v) (tb := ti) (D := D) Pv h0 hs hd
theorem z_while (Pv : Nat → St → Hp → Prop) (m : Nat) (h0 : Pv m σ H)
    (hs : ∀ m σ H, Pv m σ H → c σ H fun b H1 => if b = true then ∃ N : St → Hp → Prop, (∀ σ' H', N σ' H' → ∃ m', m' < m ∧ Pv m' σ' H') ∧ ti { D with nx := N, ct := N, bk := D.nx } σ H1 else D.nx σ H1) : tWhile c ti D σ H :=
  ⟨Pv, ⟨m, h0⟩, hs⟩
theorem z_turn {m : Nat} {Pv : Nat → St → Hp → Prop} {bk : St → Hp → Prop} (k : ti { D with nx := fun σ' H' => ∃ m', m' < m ∧ Pv m' σ' H', ct := fun σ' H' => ∃ m', m' < m ∧ Pv m' σ' H', bk := bk } σ H) :
    ∃ N : St → Hp → Prop, (∀ σ' H', N σ' H' → ∃ m', m' < m ∧ Pv m' σ' H') ∧ ti { D with nx := N, ct := N, bk := bk } σ H := ⟨_, fun _ _ h => h, k⟩
theorem mul1 (h : -1000000000000000000 < a ∧ a < 1000000000000000000) : MulOk a b := .inl (.inl (by omega))
theorem mul2 (h : -1000000000000000000 < b ∧ b < 1000000000000000000) : MulOk a b := .inl (.inr (by omega))
theorem div1 (h : 0 < b ∧ b < 1000000000000000000) : CDivW a b := wide_div h.1 (b := 64) (by omega) (by decide) (by decide)
end
/-! ### heaps -/
theorem lk_ne {H : Hp} {a b : Addr} {o u : HO} (h : a ≠ b) (e : H a = some u) : upd H b o a = some u := by rw [upd_ne h]; exact e
theorem ne_n {H : Hp} {a b : Addr} {o : HO} (h' : H b = none) (h : H a = some o) : a ≠ b := ne_of_none h h'
theorem sqL_new {K : PySem.W.Frag} {H : Hp} {a b : Addr} {o : HO} {xs : List V} (h : H b = none) (e : SqL K H a xs) : SqL K (upd H b o) a xs := by
  rcases e with (e | ⟨u, e⟩) | e
  · exact .inl (.inl (lk_ne (ne_of_none e h) e))
  · exact .inl (.inr ⟨u, lk_ne (ne_of_none e h) e⟩)
  · exact .inr e
theorem sqT_new {K : PySem.W.Frag} {H : Hp} {a b : Addr} {o : HO} {xs : List V} (h : H b = none) (e : SqT K H a xs) : SqT K (upd H b o) a xs := by
  rcases e with (e | ⟨u, e⟩) | e
  · exact .inl (.inl (lk_ne (ne_of_none e h) e))
  · exact .inl (.inr ⟨u, lk_ne (ne_of_none e h) e⟩)
  · exact .inr e
theorem sqL_ne {K : PySem.W.Frag} {H : Hp} {a b : Addr} {o : HO} {xs : List V} (h : a ≠ b) (e : SqL K H a xs) : SqL K (upd H b o) a xs := by
  rcases e with (e | ⟨u, e⟩) | e
  · exact .inl (.inl (lk_ne h e))
  · exact .inl (.inr ⟨u, lk_ne h e⟩)
  · exact .inr e
theorem sqT_ne {K : PySem.W.Frag} {H : Hp} {a b : Addr} {o : HO} {xs : List V} (h : a ≠ b) (e : SqT K H a xs) : SqT K (upd H b o) a xs := by
  rcases e with (e | ⟨u, e⟩) | e
  · exact .inl (.inl (lk_ne h e))
  · exact .inl (.inr ⟨u, lk_ne h e⟩)
  · exact .inr e
/-- what stands there is no state of draws -/
def NotSt (o : HO) : Prop := ∀ (L : Addr) (k a : Int), o ≠ .lst [.ref L, .int k, .int a]
theorem NotSt.ints {ns : List Int} : NotSt (.lst (ns.map V.int)) := fun L k a z => by
  cases ns with
  | nil => cases z
  | cons x r => injection z with z; injection z with z1 _; cases z1
theorem NotSt.refs {ps : List Addr} : NotSt (.lst (ps.map V.ref)) := fun L k a z => by
  cases ps with
  | nil => cases z
  | cons x r => cases r with
    | nil => cases z
    | cons y t => injection z with z; injection z with _ z; injection z with z _; cases z
theorem NotSt.strs {xs : List Str} : NotSt (.lst (xs.map V.str)) := fun L k a z => by
  cases xs with
  | nil => cases z
  | cons x r => injection z with z; injection z with z1 _; cases z1
/-- all that was tracked is as it was, but the states of draws -/
def ExD (H H' : Hp) : Prop := ∀ a o, NotSt o → H a = some o → H' a = some o
theorem ExD.lk {a : Addr} {H H' : Hp} {o : HO} (x : ExD H H') (e : H a = some o) (h : NotSt o) : H' a = some o := x a o h e
theorem ExD.refl (H : Hp) : ExD H H := fun _ _ _ e => e
theorem ExD.trans {H H1 H2 : Hp} (x : ExD H H1) (y : ExD H1 H2) : ExD H H2 := fun a o h e => y a o h (x a o h e)
theorem ExD.new {p : Addr} {H H1 : Hp} {o : HO} (h : H p = none) (x : ExD H H1) : ExD H (upd H1 p o) := fun a u ha e => lk_ne (ne_of_none e h) (x a u ha e)
theorem ExD.of {H H' : Hp} (x : Same H H') : ExD H H' := fun a o _ e => x a o e
theorem ExD.st {st L : Addr} {k a : Int} {H H1 : Hp} {o : HO} (e : H st = some (.lst [.ref L, .int k, .int a])) (x : ExD H H1) : ExD H (upd H1 st o) := fun b u hb f => by
  refine lk_ne (fun z => ?_) (x b u hb f)
  subst z; rw [e] at f; exact hb L k a (Option.some.inj f).symm
theorem Same.lk {a : Addr} {H H' : Hp} {o : HO} (x : Same H H') (e : H a = some o) : H' a = some o := x a o e
theorem lk_new {H : Hp} {a b : Addr} {o u : HO} (h : H b = none) (e : H a = some u) : upd H b o a = some u := lk_ne (ne_of_none e h) e
theorem lk_df {H : Hp} {a b : Addr} {o u w : HO} (e : H a = some u) (f : H b = some w) (d : u ≠ w) : upd H b o a = some u := lk_ne (fun z => by subst z; rw [e] at f; exact d (Option.some.inj f)) e

section
variable {K : PySem.W.Frag} {σ : St} {H : Hp} {Q : VK} {te ta tb : TE} {t u : TS} {D : Ends} {p : Addr} {xs : List V} {a : Int} {v : V} {j : Nat}
theorem z_cutI (k : t { D with nx := u D } σ H) : tCut t u D σ H := ⟨u D, k, fun _ _ h => h⟩
theorem z_cut (M : St → Hp → Prop) (k : t { D with nx := M } σ H) (h : ∀ σ' H', M σ' H' → u D σ' H') : tCut t u D σ H := ⟨M, k, h⟩
theorem z_asgS (k : te σ H fun x H1 => ta σ H1 fun o H2 => tb σ H2 fun i H3 => rSetL o i x H3 fun H4 => D.nx σ H4) : tAsg te (gSub ta tb rSetL) D σ H := k
theorem z_setL {Q : Hp → Prop} (h : H p = some (.lst xs)) (e : ixN xs.length a = some j) (k : Q (upd H p (.lst (xs.set j v)))) : rSetL (.ref p) (.int a) v H Q := ⟨p, xs, a, j, rfl, rfl, h, e, k⟩
theorem z_app (h : H p = some (.lst xs)) (hl : xs.length < 100000) (k : Q .non (upd H p (.lst (xs ++ [v])))) : rAppend (.ref p) [v] H Q := ⟨p, xs, v, rfl, rfl, h, Nat.lt_of_lt_of_le hl (by decide), k⟩
theorem tyL (h : H p = some (.lst xs)) : tyV K "list" (.ref p) H := Or.inl ⟨rfl, _, Or.inl (Or.inl h)⟩
theorem z_bm {T : String} {r : V → List V → Hp → VK → Prop} {to : TE} {t : TA} (k : to σ H fun x H1 => tyV K T x H1 ∧ t σ H1 fun xs H2 => r x xs H2 Q) : tBM K T r to t σ H Q := k
theorem upd_self {H : Hp} {a : Addr} {o : HO} (h : H a = some o) : upd H a o = H := by
  funext b; unfold upd; split
  · rename_i e; subst e; exact h.symm
  · rfl
theorem ix_at {α : Type} {xs : List α} {i : Int} (h0 : 0 ≤ i) (h1 : i < xs.length) : ixN xs.length i = some i.toNat := by
  unfold ixN; rw [if_pos h0, if_pos h1]
theorem at_int {ns : List Int} {i : Int} (h0 : 0 ≤ i) (h1 : i < ns.length) : atI (ns.map V.int) i = some (.int (ns.getD i.toNat 0)) := by
  unfold atI
  rw [ix_at h0 (by simpa using h1)]
  have : i.toNat < ns.length := by omega
  simp [List.getD, this]
end
/-- a body keeps its promise, from the promise as it was handed in -/
def Wd (T : TS) (N : List Str) (n : Nat) (sp : Sp) : Prop := ∀ (vs : List V) (H : Hp) (Q : VK) (E : XK), sp vs H Q E → vs.length = n ∧ T { nx := fun _ H' => Q .non H', rt := Q } (start N vs) H

/-! ### comprehensions -/
def zLcR (g : TG) (tt : TT) (te : TE) (vs : List Nat) (σ : St) (lo : Int) (n : Nat) (H1 : Hp) (Q : VK) : Prop := ∀ D, H1 D = none → ∃ W : Nat → Nat → Hp → Prop, (∃ m, W 0 m (upd H1 D (.lst []))) ∧ ∀ i m H, W i m H →
  ((Itr lo n).stop i H ∧ Q (.ref D) H) ∨ ((Itr lo n).go i H ∧ ∃ Nx : Hp → Prop, (∀ H', Nx H' → ∃ m', m' < m ∧ W (i + 1) m' H') ∧ ∀ x H', (Itr lo n).yld i H x H' → g x (wipe σ vs) H' fun σ2 H2 => wipe σ2 vs = wipe σ vs ∧ tt σ2 H2 fun b H3 =>
    if b = true then te σ2 H3 fun y H4 => ∃ acc, H4 D = some (.lst acc) ∧ acc.length < sizeLine ∧ Nx (upd H4 D (.lst (acc ++ [y]))) else Nx H3)
def zLcR1 (g : TG) (tt : TT) (te : TE) (vs : List Nat) (σ : St) (as : List V) (H1 : Hp) (Q : VK) : Prop := ∃ j : Int, as = [.int j] ∧ -(2 ^ 62) ≤ j ∧ j < 2 ^ 62 ∧ zLcR g tt te vs σ 0 j.toNat H1 Q
def zLcL (K : PySem.W.Frag) (g : TG) (tt : TT) (te : TE) (vs : List Nat) (σ : St) (a : Addr) (H1 : Hp) (Q : VK) : Prop := ∀ D, H1 D = none → ∃ W : Nat → Nat → Hp → Prop, (∃ m, W 0 m (upd H1 D (.lst []))) ∧ ∀ i m H, W i m H →
  ((Itl K a).stop i H ∧ Q (.ref D) H) ∨ ((Itl K a).go i H ∧ ∃ Nx : Hp → Prop, (∀ H', Nx H' → ∃ m', m' < m ∧ W (i + 1) m' H') ∧ ∀ x H', (Itl K a).yld i H x H' → g x (wipe σ vs) H' fun σ2 H2 => wipe σ2 vs = wipe σ vs ∧ tt σ2 H2 fun b H3 =>
    if b = true then te σ2 H3 fun y H4 => ∃ acc, H4 D = some (.lst acc) ∧ acc.length < sizeLine ∧ Nx (upd H4 D (.lst (acc ++ [y]))) else Nx H3)
def zLcT (K : PySem.W.Frag) (g : TG) (tt : TT) (te : TE) (vs : List Nat) (σ : St) (a : Addr) (H1 : Hp) (Q : VK) : Prop := ∀ D, H1 D = none → ∃ W : Nat → Nat → Hp → Prop, (∃ m, W 0 m (upd H1 D (.lst []))) ∧ ∀ i m H, W i m H →
  ((Itt K a).stop i H ∧ Q (.ref D) H) ∨ ((Itt K a).go i H ∧ ∃ Nx : Hp → Prop, (∀ H', Nx H' → ∃ m', m' < m ∧ W (i + 1) m' H') ∧ ∀ x H', (Itt K a).yld i H x H' → g x (wipe σ vs) H' fun σ2 H2 => wipe σ2 vs = wipe σ vs ∧ tt σ2 H2 fun b H3 =>
    if b = true then te σ2 H3 fun y H4 => ∃ acc, H4 D = some (.lst acc) ∧ acc.length < sizeLine ∧ Nx (upd H4 D (.lst (acc ++ [y]))) else Nx H3)
def zLcS (K : PySem.W.Frag) (g : TG) (tt : TT) (te : TE) (vs : List Nat) (σ : St) (x : V) (H1 : Hp) (Q : VK) : Prop := ∃ a, x = .ref a ∧ (((∃ xs, SqL K H1 a xs) ∧ zLcL K g tt te vs σ a H1 Q) ∨ ((∃ xs, SqT K H1 a xs) ∧ zLcT K g tt te vs σ a H1 Q))
def zForS (K : PySem.W.Frag) (g : TG) (tb : TS) (D : Ends) (σ : St) (x : V) (H1 : Hp) : Prop := ∃ a, x = .ref a ∧ (((∃ xs, SqL K H1 a xs) ∧ ∃ W : Nat → Nat → St → Hp → Prop, (∃ m, W 0 m σ H1) ∧ ∀ i m σ H, W i m σ H →
  ((Itl K a).stop i H ∧ D.nx σ H) ∨ ((Itl K a).go i H ∧ ∃ N : St → Hp → Prop, (∀ σ' H', N σ' H' → ∃ m', m' < m ∧ W (i + 1) m' σ' H') ∧ ∀ x H', (Itl K a).yld i H x H' → g x σ H' fun σ2 H2 => tb { D with nx := N, ct := N, bk := D.nx } σ2 H2)) ∨
  ((∃ xs, SqT K H1 a xs) ∧ ∃ W : Nat → Nat → St → Hp → Prop, (∃ m, W 0 m σ H1) ∧ ∀ i m σ H, W i m σ H →
  ((Itt K a).stop i H ∧ D.nx σ H) ∨ ((Itt K a).go i H ∧ ∃ N : St → Hp → Prop, (∀ σ' H', N σ' H' → ∃ m', m' < m ∧ W (i + 1) m' σ' H') ∧ ∀ x H', (Itt K a).yld i H x H' → g x σ H' fun σ2 H2 => tb { D with nx := N, ct := N, bk := D.nx } σ2 H2)))

section
open PyProof.Rows
theorem pi_sq {X : Cx} {tg l : Expr} {tl : TE} (hl : PE X l tl) : PI X tg l (iSq X.K tl) := by
  refine ⟨fun pins s σ H R I h => ?_⟩
  refine thn (hl.run pins s σ H _ I h) fun v s1 ⟨x, H1, I1, r1, q1⟩ => ?_
  obtain ⟨a, e, q1⟩ := q1
  subst e
  cases r1
  rcases q1 with ⟨⟨xs, hq⟩, q⟩ | ⟨⟨xs, hq⟩, q⟩
  · obtain ⟨its, rv, p, hz⟩ := I1.list hq
    refine wpAny_pyIter_list p.isList ?_
    refine ⟨s1.heap.objs.size, [s1.heap.objs.size], _, _, H1, rfl, I1.kept (t' := s1.toks) fun b o e => Heap.get?_push_of_some _ e, turn_list a _, ⟨_, Heap.get?_push_size _ rfl, rfl, rfl⟩, fun b hb => ?_, q⟩
    have e : b = s1.heap.objs.size := by simpa using hb
    subst e
    exact I1.fpOk (Nat.le_refl _) (I1.hok.fresh (Nat.le_refl _))
  · obtain ⟨its, rv, p, hz⟩ := I1.tuple hq
    refine wpAny_pyIter_tuple (show s1.heap.IsTuple a its.toArray from p) ?_
    refine ⟨s1.heap.objs.size, [s1.heap.objs.size], _, _, H1, rfl, I1.kept (t' := s1.toks) fun b o e => Heap.get?_push_of_some _ e, turn_tuple a _, ⟨_, Heap.get?_push_size _ rfl, rfl, rfl⟩, fun b hb => ?_, q⟩
    have e : b = s1.heap.objs.size := by simpa using hb
    subst e
    exact I1.fpOk (Nat.le_refl _) (I1.hok.fresh (Nat.le_refl _))
end
section
variable {K : PySem.W.Frag} {σ : L2.St} {H : Hp} {Q : VK} {D : Ends} {tt : TT} {te tl : TE} {ta : TA} {vs : List Nat} {g : TG} {tb : TS} {a : Addr} {xs : List V}
theorem z_forSq (k : tl σ H fun x H1 => zForS K g tb D σ x H1) : tFor (iSq K tl) g tb D σ H := k
theorem z_lcSq (k : tl σ H fun x H1 => zLcS K g tt te vs σ x H1 Q) : tLc (iSq K tl) g tt te vs σ H Q := k
theorem z_lc1 (k : ta σ H fun as H1 => zLcR1 g tt te vs σ as H1 Q) : tLc (iRng1 ta) g tt te vs σ H Q := k
theorem z_yes {QB : Bool → Hp → Prop} (k : QB true H) : tYes σ H QB := k
theorem z_accum {D : Addr} {acc : List V} {P : List V → Prop} (h : H D = some (.lst acc)) (hl : acc.length < 100000) (k : P acc) : ∃ acc, H D = some (.lst acc) ∧ acc.length < sizeLine ∧ P acc :=
  ⟨acc, h, Nat.lt_of_lt_of_le hl (by decide), k⟩
/-- over a list that stays -/
theorem z_forL (h : SqL K H a xs) (Pv : Nat → L2.St → Hp → Prop) (h0 : Pv 0 σ H) (hl : ∀ i σ' H', i ≤ xs.length → Pv i σ' H' → SqL K H' a xs)
    (hs : ∀ i x σ' H', xs[i]? = some x → Pv i σ' H' → g x σ' H' fun σ2 H2 => tb { D with nx := Pv (i + 1), ct := Pv (i + 1), bk := D.nx } σ2 H2) (hd : ∀ σ' H', Pv xs.length σ' H' → D.nx σ' H') : zForS K g tb D σ (.ref a) H :=
  ⟨a, rfl, .inl ⟨⟨xs, h⟩, for_list Pv h0 hl hs hd⟩⟩
theorem z_forT (h : SqT K H a xs) (Pv : Nat → L2.St → Hp → Prop) (h0 : Pv 0 σ H) (hl : ∀ i σ' H', i ≤ xs.length → Pv i σ' H' → SqT K H' a xs)
    (hs : ∀ i x σ' H', xs[i]? = some x → Pv i σ' H' → g x σ' H' fun σ2 H2 => tb { D with nx := Pv (i + 1), ct := Pv (i + 1), bk := D.nx } σ2 H2) (hd : ∀ σ' H', Pv xs.length σ' H' → D.nx σ' H') : zForS K g tb D σ (.ref a) H :=
  ⟨a, rfl, .inr ⟨⟨xs, h⟩, for_tup Pv h0 hl hs hd⟩⟩
theorem z_gName {v : V} {i : Nat} {P : L2.St → Hp → Prop} (k : P (σ.set i (some v)) H) : gName i v σ H P := k
theorem z_lcr1 {j : Int} (hb : -1000000 ≤ j ∧ j ≤ 1000000) (k : zLcR g tt te vs σ 0 j.toNat H Q) : zLcR1 g tt te vs σ [.int j] H Q := ⟨j, rfl, by omega, by omega, k⟩
theorem z_lcr {lo : Int} {n : Nat} (Pv : Addr → Nat → Hp → Prop) (h0 : ∀ D, H D = none → Pv D 0 (upd H D (.lst [])))
    (hs : ∀ D i H', H D = none → i < n → Pv D i H' → g (.int (lo + i)) (wipe σ vs) H' fun σ2 H2 => wipe σ2 vs = wipe σ vs ∧ tt σ2 H2 fun b H3 =>
      if b = true then te σ2 H3 fun y H4 => ∃ acc, H4 D = some (.lst acc) ∧ acc.length < sizeLine ∧ Pv D (i + 1) (upd H4 D (.lst (acc ++ [y]))) else Pv D (i + 1) H3)
    (hd : ∀ D H', H D = none → Pv D n H' → Q (.ref D) H') : zLcR g tt te vs σ lo n H Q :=
  fun D hD => lc_range (Pv D) (h0 D hD) (fun i H' hi p => hs D i H' hD hi p) (fun H' p => hd D H' hD p)
theorem z_lcl (h : SqL K H a xs) (Pv : Addr → Nat → Hp → Prop) (h0 : ∀ D, H D = none → Pv D 0 (upd H D (.lst []))) (hl : ∀ D i H', H D = none → i ≤ xs.length → Pv D i H' → SqL K H' a xs)
    (hs : ∀ D i x H', H D = none → xs[i]? = some x → Pv D i H' → g x (wipe σ vs) H' fun σ2 H2 => wipe σ2 vs = wipe σ vs ∧ tt σ2 H2 fun b H3 =>
      if b = true then te σ2 H3 fun y H4 => ∃ acc, H4 D = some (.lst acc) ∧ acc.length < sizeLine ∧ Pv D (i + 1) (upd H4 D (.lst (acc ++ [y]))) else Pv D (i + 1) H3)
    (hd : ∀ D H', H D = none → Pv D xs.length H' → Q (.ref D) H') : zLcS K g tt te vs σ (.ref a) H Q :=
  ⟨a, rfl, .inl ⟨⟨xs, h⟩, fun D hD => lc_list (Pv D) (h0 D hD) (fun i H' hi p => hl D i H' hD hi p) (fun i x H' hi p => hs D i x H' hD hi p) (fun H' p => hd D H' hD p)⟩⟩
theorem z_lct (h : SqT K H a xs) (Pv : Addr → Nat → Hp → Prop) (h0 : ∀ D, H D = none → Pv D 0 (upd H D (.lst []))) (hl : ∀ D i H', H D = none → i ≤ xs.length → Pv D i H' → SqT K H' a xs)
    (hs : ∀ D i x H', H D = none → xs[i]? = some x → Pv D i H' → g x (wipe σ vs) H' fun σ2 H2 => wipe σ2 vs = wipe σ vs ∧ tt σ2 H2 fun b H3 =>
      if b = true then te σ2 H3 fun y H4 => ∃ acc, H4 D = some (.lst acc) ∧ acc.length < sizeLine ∧ Pv D (i + 1) (upd H4 D (.lst (acc ++ [y]))) else Pv D (i + 1) H3)
    (hd : ∀ D H', H D = none → Pv D xs.length H' → Q (.ref D) H') : zLcS K g tt te vs σ (.ref a) H Q :=
  ⟨a, rfl, .inr ⟨⟨xs, h⟩, fun D hD => lc_tup (Pv D) (h0 D hD) (fun i H' hi p => hl D i H' hD hi p) (fun i x H' hi p => hs D i x H' hD hi p) (fun H' p => hd D H' hD p)⟩⟩
end
/-! ### zip -/
def zZip (K : PySem.W.Frag) (g : TG) (tb : TS) (D : Ends) (σ : L2.St) (vs : List V) (H1 : Hp) : Prop := ∃ a b xs ys, vs = [.ref a, .ref b] ∧ ((SqL K H1 a xs ∧ SqL K H1 b ys ∧ ∃ W : Nat → Nat → L2.St → Hp → Prop, (∃ m, W 0 m σ H1) ∧ ∀ i m σ H, W i m σ H →
  ((Itz K a b).stop i H ∧ D.nx σ H) ∨ ((Itz K a b).go i H ∧ ∃ N : L2.St → Hp → Prop, (∀ σ' H', N σ' H' → ∃ m', m' < m ∧ W (i + 1) m' σ' H') ∧ ∀ x H', (Itz K a b).yld i H x H' → g x σ H' fun σ2 H2 => tb { D with nx := N, ct := N, bk := D.nx } σ2 H2)) ∨
  (SqT K H1 a xs ∧ SqT K H1 b ys ∧ ∃ W : Nat → Nat → L2.St → Hp → Prop, (∃ m, W 0 m σ H1) ∧ ∀ i m σ H, W i m σ H →
  ((RZ.ItzT K a b).stop i H ∧ D.nx σ H) ∨ ((RZ.ItzT K a b).go i H ∧ ∃ N : L2.St → Hp → Prop, (∀ σ' H', N σ' H' → ∃ m', m' < m ∧ W (i + 1) m' σ' H') ∧ ∀ x H', (RZ.ItzT K a b).yld i H x H' → g x σ H' fun σ2 H2 => tb { D with nx := N, ct := N, bk := D.nx } σ2 H2)))
theorem Same.sqT {K : PySem.W.Frag} {H H' : Hp} {a : Addr} {xs : List V} (e : Same H H') (h : SqT K H a xs) : SqT K H' a xs := by
  rcases h with (h | ⟨o, h⟩) | h
  · exact .inl (.inl (e _ _ h))
  · exact .inl (.inr ⟨o, e _ _ h⟩)
  · exact .inr h
theorem Same.new {H H' : Hp} {p : Addr} {o : HO} (h : H' p = none) (e : Same H H') : Same H (upd H' p o) := fun b u q => lk_ne (ne_of_none (e b u q) h) (e b u q)
section
variable {K : PySem.W.Frag} {σ : L2.St} {H : Hp} {D : Ends} {ta : TA} {g : TG} {tb : TS} {a b : Addr} {xs ys : List V}
theorem z_forZ (k : ta σ H fun vs H1 => zZip K g tb D σ vs H1) : tFor (RZ.iZipA K ta) g tb D σ H := k
theorem z_zip {u v : Nat} (h : (SqL K H a xs ∧ SqL K H b ys) ∨ (SqT K H a xs ∧ SqT K H b ys)) (Pv : Nat → L2.St → Hp → Prop) (h0 : Pv 0 σ H) (hk : ∀ i σ' H', Pv i σ' H' → Same H H')
    (hs : ∀ i x y p σ' H', xs[i]? = some x → ys[i]? = some y → Pv i σ' H' → H' p = none → tb { D with nx := Pv (i + 1), ct := Pv (i + 1), bk := D.nx } ((σ'.set u (some x)).set v (some y)) (upd H' p (.tup [x, y])))
    (hd : ∀ σ' H', Pv (min xs.length ys.length) σ' H' → D.nx σ' H') : zZip K (gTup K 2 (gCons (gName u) (gCons (gName v) gNil))) tb D σ [.ref a, .ref b] H := by
  refine ⟨a, b, xs, ys, rfl, ?_⟩
  rcases h with ⟨h1, h2⟩ | ⟨h1, h2⟩
  · refine .inl ⟨h1, h2, fun i m σ H => m = min xs.length ys.length - i ∧ i ≤ min xs.length ys.length ∧ Pv i σ H, ⟨_, rfl, Nat.zero_le _, h0⟩, ?_⟩
    rintro i m σ' H' ⟨rfl, hi, p⟩
    have s := hk i σ' H' p
    have q1 := Same.seq s h1
    have q2 := Same.seq s h2
    by_cases hlt : i < min xs.length ys.length
    · have l1 : i < xs.length := by omega
      have l2 : i < ys.length := by omega
      refine .inr ⟨⟨xs, ys, xs[i], ys[i], q1, q2, by simp [l1], by simp [l2]⟩, Pv (i + 1), fun σ2 H2 p' => ⟨_, by omega, rfl, by omega, p'⟩, ?_⟩
      rintro x H2 ⟨T, x1, y1, rfl, hT, rfl, f1, f2⟩
      exact ⟨T, [x1, y1], rfl, .inl (.inl upd_same), rfl, x1, [y1], rfl, y1, [], rfl, rfl, hs i x1 y1 T σ' H' (f1 xs q1) (f2 ys q2) p hT⟩
    · have e : i = min xs.length ys.length := by omega
      subst e
      exact .inl ⟨⟨xs, ys, q1, q2, by omega⟩, hd σ' H' p⟩
  · refine .inr ⟨h1, h2, fun i m σ H => m = min xs.length ys.length - i ∧ i ≤ min xs.length ys.length ∧ Pv i σ H, ⟨_, rfl, Nat.zero_le _, h0⟩, ?_⟩
    rintro i m σ' H' ⟨rfl, hi, p⟩
    have s := hk i σ' H' p
    have q1 := Same.sqT s h1
    have q2 := Same.sqT s h2
    by_cases hlt : i < min xs.length ys.length
    · have l1 : i < xs.length := by omega
      have l2 : i < ys.length := by omega
      refine .inr ⟨⟨xs, ys, xs[i], ys[i], q1, q2, by simp [l1], by simp [l2]⟩, Pv (i + 1), fun σ2 H2 p' => ⟨_, by omega, rfl, by omega, p'⟩, ?_⟩
      rintro x H2 ⟨T, x1, y1, rfl, hT, rfl, f1, f2⟩
      exact ⟨T, [x1, y1], rfl, .inl (.inl upd_same), rfl, x1, [y1], rfl, y1, [], rfl, rfl, hs i x1 y1 T σ' H' (f1 xs q1) (f2 ys q2) p hT⟩
    · have e : i = min xs.length ys.length := by omega
      subst e
      exact .inl ⟨⟨xs, ys, q1, q2, by omega⟩, hd σ' H' p⟩
end
/-- an item of a list of ints -/
theorem map_int {xs : List Int} {i : Nat} {x : V} (h : (xs.map V.int)[i]? = some x) : i < xs.length ∧ x = .int (xs.getD i 0) := by
  rw [List.getElem?_map] at h
  cases e : xs[i]? with
  | none => rw [e] at h; cases h
  | some y =>
    rw [e] at h
    obtain ⟨l, _⟩ := List.getElem?_eq_some_iff.mp e
    exact ⟨l, by rw [List.getD_eq_getElem?_getD, e]; exact (Option.some.inj h).symm⟩
/-- a, b = a pair -/
theorem z_gTup2 {K : PySem.W.Frag} {H : Hp} {σ : L2.St} {P : L2.St → Hp → Prop} {t : Addr} {x y : V} {u v : Nat} (h : SqT K H t [x, y]) (k : P ((σ.set u (some x)).set v (some y)) H) : gTup K 2 (gCons (gName u) (gCons (gName v) gNil)) (.ref t) σ H P :=
  ⟨t, [x, y], rfl, h, rfl, x, [y], rfl, y, [], rfl, rfl, k⟩
/-! ### enumerate -/
def zEnum (K : PySem.W.Frag) (g : TG) (tb : TS) (D : Ends) (σ : L2.St) (vs : List V) (H1 : Hp) : Prop := ∃ a xs, vs = [.ref a] ∧ SqL K H1 a xs ∧ ∃ W : Nat → Nat → L2.St → Hp → Prop, (∃ m, W 0 m σ H1) ∧ ∀ i m σ H, W i m σ H →
  ((Ite K a).stop i H ∧ D.nx σ H) ∨ ((Ite K a).go i H ∧ ∃ N : L2.St → Hp → Prop, (∀ σ' H', N σ' H' → ∃ m', m' < m ∧ W (i + 1) m' σ' H') ∧ ∀ x H', (Ite K a).yld i H x H' → g x σ H' fun σ2 H2 => tb { D with nx := N, ct := N, bk := D.nx } σ2 H2)
def zLcE (K : PySem.W.Frag) (g : TG) (tt : TT) (te : TE) (vs : List Nat) (σ : L2.St) (as : List V) (H1 : Hp) (Q : VK) : Prop := ∃ a xs, as = [.ref a] ∧ SqL K H1 a xs ∧ ∀ D, H1 D = none → ∃ W : Nat → Nat → Hp → Prop, (∃ m, W 0 m (upd H1 D (.lst []))) ∧ ∀ i m H, W i m H →
  ((Ite K a).stop i H ∧ Q (.ref D) H) ∨ ((Ite K a).go i H ∧ ∃ Nx : Hp → Prop, (∀ H', Nx H' → ∃ m', m' < m ∧ W (i + 1) m' H') ∧ ∀ x H', (Ite K a).yld i H x H' → g x (wipe σ vs) H' fun σ2 H2 => wipe σ2 vs = wipe σ vs ∧ tt σ2 H2 fun b H3 =>
    if b = true then te σ2 H3 fun y H4 => ∃ acc, H4 D = some (.lst acc) ∧ acc.length < sizeLine ∧ Nx (upd H4 D (.lst (acc ++ [y]))) else Nx H3)
section
variable {K : PySem.W.Frag} {σ : L2.St} {H : Hp} {D : Ends} {ta : TA} {g : TG} {tb : TS} {a : Addr} {xs : List V} {tt : TT} {te : TE} {vs : List Nat} {Q : VK}
theorem z_forE (k : ta σ H fun vs H1 => zEnum K g tb D σ vs H1) : tFor (iEnum K ta) g tb D σ H := k
theorem z_lcE (k : ta σ H fun as H1 => zLcE K g tt te vs σ as H1 Q) : tLc (iEnum K ta) g tt te vs σ H Q := k
theorem z_enum {u v : Nat} (h : SqL K H a xs) (Pv : Nat → L2.St → Hp → Prop) (h0 : Pv 0 σ H) (hk : ∀ i σ' H', Pv i σ' H' → SqL K H' a xs)
    (hs : ∀ i x p σ' H', xs[i]? = some x → Pv i σ' H' → H' p = none → tb { D with nx := Pv (i + 1), ct := Pv (i + 1), bk := D.nx } ((σ'.set u (some (.int (i : Nat)))).set v (some x)) (upd H' p (.tup [.int (i : Nat), x])))
    (hd : ∀ σ' H', Pv xs.length σ' H' → D.nx σ' H') : zEnum K (gTup K 2 (gCons (gName u) (gCons (gName v) gNil))) tb D σ [.ref a] H := by
  refine ⟨a, xs, rfl, h, fun i m σ H => m = xs.length - i ∧ i ≤ xs.length ∧ Pv i σ H, ⟨_, rfl, Nat.zero_le _, h0⟩, ?_⟩
  rintro i m σ' H' ⟨rfl, hi, p⟩
  have q1 := hk i σ' H' p
  by_cases hlt : i < xs.length
  · refine .inr ⟨⟨xs, xs[i], q1, by simp [hlt]⟩, Pv (i + 1), fun σ2 H2 p' => ⟨_, by omega, rfl, by omega, p'⟩, ?_⟩
    rintro x H2 ⟨T, x1, rfl, hT, rfl, f1⟩
    exact ⟨T, [.int (i : Nat), x1], rfl, .inl (.inl upd_same), rfl, .int (i : Nat), [x1], rfl, x1, [], rfl, rfl, hs i x1 T σ' H' (f1 xs q1) p hT⟩
  · have e : i = xs.length := by omega
    subst e
    exact .inl ⟨⟨xs, q1, by omega⟩, hd σ' H' p⟩
theorem z_lce {u v : Nat} (h : SqL K H a xs) (Pv : Addr → Nat → Hp → Prop) (h0 : ∀ D, H D = none → Pv D 0 (upd H D (.lst []))) (hk : ∀ D i H', H D = none → Pv D i H' → SqL K H' a xs)
    (hs : ∀ D i x p H', H D = none → xs[i]? = some x → Pv D i H' → H' p = none → wipe (((wipe σ vs).set u (some (.int (i : Nat)))).set v (some x)) vs = wipe σ vs ∧ tt (((wipe σ vs).set u (some (.int (i : Nat)))).set v (some x)) (upd H' p (.tup [.int (i : Nat), x])) fun b H3 =>
      if b = true then te (((wipe σ vs).set u (some (.int (i : Nat)))).set v (some x)) H3 fun y H4 => ∃ acc, H4 D = some (.lst acc) ∧ acc.length < sizeLine ∧ Pv D (i + 1) (upd H4 D (.lst (acc ++ [y]))) else Pv D (i + 1) H3)
    (hd : ∀ D H', H D = none → Pv D xs.length H' → Q (.ref D) H') : zLcE K (gTup K 2 (gCons (gName u) (gCons (gName v) gNil))) tt te vs σ [.ref a] H Q := by
  refine ⟨a, xs, rfl, h, fun D hD => ⟨fun i m H => m = xs.length - i ∧ i ≤ xs.length ∧ Pv D i H, ⟨_, rfl, Nat.zero_le _, h0 D hD⟩, ?_⟩⟩
  rintro i m H' ⟨rfl, hi, p⟩
  have q1 := hk D i H' hD p
  by_cases hlt : i < xs.length
  · refine .inr ⟨⟨xs, xs[i], q1, by simp [hlt]⟩, Pv D (i + 1), fun H2 p' => ⟨_, by omega, rfl, by omega, p'⟩, ?_⟩
    rintro x H2 ⟨T, x1, rfl, hT, rfl, f1⟩
    exact ⟨T, [.int (i : Nat), x1], rfl, .inl (.inl upd_same), rfl, .int (i : Nat), [x1], rfl, x1, [], rfl, rfl, hs D i x1 T H' hD (f1 xs q1) p hT⟩
  · have e : i = xs.length := by omega
    subst e
    exact .inl ⟨⟨xs, q1, by omega⟩, hd D H' hD p⟩
end
/-! ### attributes -/
def zFld (K : PySem.W.Frag) (f : Str) (x : V) (H : Hp) (Q : VK) : Prop := ∃ a C dx fs v, x = .ref a ∧ H a = some (.ins C dx fs) ∧ Cls K C ∧ NoAttr K C f ∧ fs.lookup f = some v ∧ Q v H
def zSet (K : PySem.W.Frag) (f : Str) (y x : V) (H : Hp) (N : Hp → Prop) : Prop := ∃ a C dx fs, x = .ref a ∧ H a = some (.ins C dx fs) ∧ Cls K C ∧ NoAttr K C f ∧ fs.length < 1000 ∧ N (upd H a (.ins C dx (putF f y fs)))
theorem z_fldt {K : PySem.W.Frag} {σ : L2.St} {H : Hp} {ta : TE} {f : Str} {Q : VK} (k : ta σ H fun x H1 => zFld K f x H1 Q) : tFld K ta f σ H Q := k
theorem z_sett {K : PySem.W.Frag} {σ : L2.St} {H : Hp} {ta tv : TE} {f : Str} {D : Ends} (k : tv σ H fun y H1 => ta σ H1 fun x H2 => zSet K f y x H2 fun H3 => D.nx σ H3) : sFld K ta tv f D σ H := k
/-! ### slices -/
def uSl (K : PySem.W.Frag) : V → Option Int → Option Int → Hp → VK → Prop := fun x lo hi H Q => match x with
  | .ref a => rSlL K (.ref a) lo hi H Q ∨ rSlA K (.ref a) lo hi H Q
  | .str z => z.length ≤ sizeLine ∧ Q (.str (cutS z lo hi)) H
  | _ => False
theorem sl_uSl {X : Cx} : SlR X (uSl X.K) := by
  intro pins s σ H x v vl vu lo hi sl Q I rx hs pl pu h
  cases x <;> first | exact h.elim | skip
  · exact sl_str pins s σ H _ v vl vu lo hi sl Q I rx hs pl pu ⟨_, rfl, h.1, h.2⟩
  · exact (sl_list.or sl_tupA) pins s σ H _ v vl vu lo hi sl Q I rx hs pl pu h
section
variable {K : PySem.W.Frag} {σ : L2.St} {H : Hp} {Q : VK} {te : TE} {tl th : TO} {p : Addr} {xs : List V} {lo hi : Option Int} {QO : Option Int → Hp → Prop}
theorem z_sl {r : V → Option Int → Option Int → Hp → VK → Prop} (k : te σ H fun x H1 => tl σ H1 fun l H2 => th σ H2 fun u H3 => r x l u H3 Q) : tSl r te tl th σ H Q := k
theorem z_part (k : te σ H fun x H1 => ∃ i, x = .int i ∧ QO (some i) H1) : tPart te σ H QO := k
theorem z_noPart (k : QO none H) : tNoPart σ H QO := k
theorem z_parti {P : Int → Prop} {a : Int} (k : P a) : ∃ i, V.int a = .int i ∧ P i := ⟨a, rfl, k⟩
theorem z_slL (h : SqL K H p xs) (k : ∀ l, H l = none → Q (.ref l) (upd H l (.lst (cutV xs lo hi)))) : uSl K (.ref p) lo hi H Q := .inl ⟨p, xs, rfl, h, k⟩
theorem z_slS {x : Str} (h : x.length ≤ 100000) (k : Q (.str (cutS x lo hi)) H) : uSl K (.str x) lo hi H Q := ⟨Nat.le_trans h (by decide), k⟩
end
theorem cutV_ints (ns : List Int) (lo hi : Option Int) : cutV (ns.map V.int) lo hi = ((ns.drop (HT.sIx ns.length 0 lo)).take (HT.sIx ns.length ns.length hi - HT.sIx ns.length 0 lo)).map V.int := by
  unfold cutV; rw [List.length_map, List.map_take, List.map_drop]
theorem cutV_refs (ps : List Addr) (lo hi : Option Int) : cutV (ps.map V.ref) lo hi = ((ps.drop (HT.sIx ps.length 0 lo)).take (HT.sIx ps.length ps.length hi - HT.sIx ps.length 0 lo)).map V.ref := by
  unfold cutV; rw [List.length_map, List.map_take, List.map_drop]
theorem sIx_pos {n d : Nat} {i : Int} (h : 0 ≤ i) : HT.sIx n d (some i) = min i.toNat n := by
  show (if i < 0 then (i + (n : Int)).toNat else min i.toNat n) = _
  rw [if_neg (by omega)]
/-! ### comprehensions over zip -/
def zLcZ (K : PySem.W.Frag) (g : TG) (tt : TT) (te : TE) (vs : List Nat) (σ : L2.St) (as : List V) (H1 : Hp) (Q : VK) : Prop := ∃ a b xs ys, as = [.ref a, .ref b] ∧ ((SqL K H1 a xs ∧ SqL K H1 b ys ∧ ∀ D, H1 D = none → ∃ W : Nat → Nat → Hp → Prop, (∃ m, W 0 m (upd H1 D (.lst []))) ∧ ∀ i m H, W i m H →
  ((Itz K a b).stop i H ∧ Q (.ref D) H) ∨ ((Itz K a b).go i H ∧ ∃ Nx : Hp → Prop, (∀ H', Nx H' → ∃ m', m' < m ∧ W (i + 1) m' H') ∧ ∀ x H', (Itz K a b).yld i H x H' → g x (wipe σ vs) H' fun σ2 H2 => wipe σ2 vs = wipe σ vs ∧ tt σ2 H2 fun b H3 =>
    if b = true then te σ2 H3 fun y H4 => ∃ acc, H4 D = some (.lst acc) ∧ acc.length < sizeLine ∧ Nx (upd H4 D (.lst (acc ++ [y]))) else Nx H3)) ∨
  (SqT K H1 a xs ∧ SqT K H1 b ys ∧ ∀ D, H1 D = none → ∃ W : Nat → Nat → Hp → Prop, (∃ m, W 0 m (upd H1 D (.lst []))) ∧ ∀ i m H, W i m H →
  ((RZ.ItzT K a b).stop i H ∧ Q (.ref D) H) ∨ ((RZ.ItzT K a b).go i H ∧ ∃ Nx : Hp → Prop, (∀ H', Nx H' → ∃ m', m' < m ∧ W (i + 1) m' H') ∧ ∀ x H', (RZ.ItzT K a b).yld i H x H' → g x (wipe σ vs) H' fun σ2 H2 => wipe σ2 vs = wipe σ vs ∧ tt σ2 H2 fun b H3 =>
    if b = true then te σ2 H3 fun y H4 => ∃ acc, H4 D = some (.lst acc) ∧ acc.length < sizeLine ∧ Nx (upd H4 D (.lst (acc ++ [y]))) else Nx H3)))
section
variable {K : PySem.W.Frag} {σ : L2.St} {H : Hp} {ta : TA} {g : TG} {a b : Addr} {xs ys : List V} {tt : TT} {te : TE} {vs : List Nat} {Q : VK}
theorem z_lcZ (k : ta σ H fun as H1 => zLcZ K g tt te vs σ as H1 Q) : tLc (RZ.iZipA K ta) g tt te vs σ H Q := k
theorem z_lcz {u v : Nat} (h : (SqL K H a xs ∧ SqL K H b ys) ∨ (SqT K H a xs ∧ SqT K H b ys)) (Pv : Addr → Nat → Hp → Prop) (h0 : ∀ D, H D = none → Pv D 0 (upd H D (.lst []))) (hk : ∀ D i H', H D = none → Pv D i H' → Same H H')
    (hs : ∀ D i x y p H', H D = none → xs[i]? = some x → ys[i]? = some y → Pv D i H' → H' p = none → wipe (((wipe σ vs).set u (some x)).set v (some y)) vs = wipe σ vs ∧ tt (((wipe σ vs).set u (some x)).set v (some y)) (upd H' p (.tup [x, y])) fun b H3 =>
      if b = true then te (((wipe σ vs).set u (some x)).set v (some y)) H3 fun z H4 => ∃ acc, H4 D = some (.lst acc) ∧ acc.length < sizeLine ∧ Pv D (i + 1) (upd H4 D (.lst (acc ++ [z]))) else Pv D (i + 1) H3)
    (hd : ∀ D H', H D = none → Pv D (min xs.length ys.length) H' → Q (.ref D) H') : zLcZ K (gTup K 2 (gCons (gName u) (gCons (gName v) gNil))) tt te vs σ [.ref a, .ref b] H Q := by
  refine ⟨a, b, xs, ys, rfl, ?_⟩
  rcases h with ⟨h1, h2⟩ | ⟨h1, h2⟩
  · refine .inl ⟨h1, h2, fun D hD => ⟨fun i m H => m = min xs.length ys.length - i ∧ i ≤ min xs.length ys.length ∧ Pv D i H, ⟨_, rfl, Nat.zero_le _, h0 D hD⟩, ?_⟩⟩
    rintro i m H' ⟨rfl, hi, p⟩
    have s := hk D i H' hD p
    have q1 := Same.seq s h1
    have q2 := Same.seq s h2
    by_cases hlt : i < min xs.length ys.length
    · have l1 : i < xs.length := by omega
      have l2 : i < ys.length := by omega
      refine .inr ⟨⟨xs, ys, xs[i], ys[i], q1, q2, by simp [l1], by simp [l2]⟩, Pv D (i + 1), fun H2 p' => ⟨_, by omega, rfl, by omega, p'⟩, ?_⟩
      rintro x H2 ⟨T, x1, y1, rfl, hT, rfl, f1, f2⟩
      exact ⟨T, [x1, y1], rfl, .inl (.inl upd_same), rfl, x1, [y1], rfl, y1, [], rfl, rfl, hs D i x1 y1 T H' hD (f1 xs q1) (f2 ys q2) p hT⟩
    · have e : i = min xs.length ys.length := by omega
      subst e
      exact .inl ⟨⟨xs, ys, q1, q2, by omega⟩, hd D H' hD p⟩
  · refine .inr ⟨h1, h2, fun D hD => ⟨fun i m H => m = min xs.length ys.length - i ∧ i ≤ min xs.length ys.length ∧ Pv D i H, ⟨_, rfl, Nat.zero_le _, h0 D hD⟩, ?_⟩⟩
    rintro i m H' ⟨rfl, hi, p⟩
    have s := hk D i H' hD p
    have q1 := Same.sqT s h1
    have q2 := Same.sqT s h2
    by_cases hlt : i < min xs.length ys.length
    · have l1 : i < xs.length := by omega
      have l2 : i < ys.length := by omega
      refine .inr ⟨⟨xs, ys, xs[i], ys[i], q1, q2, by simp [l1], by simp [l2]⟩, Pv D (i + 1), fun H2 p' => ⟨_, by omega, rfl, by omega, p'⟩, ?_⟩
      rintro x H2 ⟨T, x1, y1, rfl, hT, rfl, f1, f2⟩
      exact ⟨T, [x1, y1], rfl, .inl (.inl upd_same), rfl, x1, [y1], rfl, y1, [], rfl, rfl, hs D i x1 y1 T H' hD (f1 xs q1) (f2 ys q2) p hT⟩
    · have e : i = min xs.length ys.length := by omega
      subst e
      exact .inl ⟨⟨xs, ys, q1, q2, by omega⟩, hd D H' hD p⟩
end
/-! ### constants of the module -/
theorem z_gint {X : Cx} {x : Str} {i : Int} {pos : Pos} (hm : ∃ t, X.mg x = some (.int i t)) (hg : Gl X x) (hd : (x == ("__debug__" : Str)) = false := by decide) : PE X (.Name x pos) (tC (.int i)) := by
  obtain ⟨t, hm⟩ := hm
  exact pe_glob hg hm ⟨t, rfl⟩ hd
theorem z_gstr {X : Cx} {x y : Str} {pos : Pos} (hm : ∃ t, X.mg x = some (.str y t)) (hg : Gl X x) (hd : (x == ("__debug__" : Str)) = false := by decide) : PE X (.Name x pos) (tC (.str y)) := by
  obtain ⟨t, hm⟩ := hm
  exact pe_glob hg hm ⟨t, rfl⟩ hd

local macro_rules | `(tactic| walk_at "ne") => `(tactic| with_reducible first | assumption | exact Ne.symm (by assumption) | exact ne_n (by assumption) (by assumption) | exact Ne.symm (ne_n (by assumption) (by assumption)))
local macro_rules | `(tactic| walk_at "df") => `(tactic| (intro zz; cases zz; done))
local macro_rules | `(tactic| walk_at "ns") => `(tactic| first | exact NotSt.ints | exact NotSt.refs | exact NotSt.strs | (intro _ _ _ zz; cases zz; done))
local macro_rules | `(tactic| walk_at "lk") => `(tactic| with_reducible first | assumption | ((show upd _ _ _ _ = _); first | exact upd_same | exact lk_new (by assumption) (by walk_at "lk") | ((fail_if_success refine lk_new (by assumption) ?_); first | exact lk_ne (by walk_at "ne") (by walk_at "lk") | exact lk_df (by walk_at "lk") (by walk_at "lk") (by with_unfolding_all walk_at "df"))) | exact ExD.lk (by assumption) (by walk_at "lk") (by with_unfolding_all walk_at "ns") | exact Same.lk (by assumption) (by walk_at "lk"))
local macro_rules | `(tactic| walk_at "sqL") => `(tactic| with_reducible first | assumption | exact SqL.of (by walk_at "lk") | ((show SqL _ (upd _ _ _) _ _); first | exact sqL_new (by assumption) (by walk_at "sqL") | exact sqL_ne (by walk_at "ne") (by walk_at "sqL")) | exact Same.seq (by assumption) (by walk_at "sqL"))
local macro_rules | `(tactic| walk_at "sqT") => `(tactic| with_reducible first | assumption | exact SqT.of (by walk_at "lk") | ((show SqT _ (upd _ _ _) _ _); first | exact sqT_new (by assumption) (by walk_at "sqT") | exact sqT_ne (by walk_at "ne") (by walk_at "sqT")))
local macro_rules | `(tactic| walk_at "sq") => `(tactic| first | exact Or.inl (by walk_at "sqL") | exact Or.inr (by walk_at "sqT"))
local macro_rules | `(tactic| walk_at "mulok") => `(tactic| first | exact mul1 (by omega) | exact mul2 (by omega))
local macro_rules | `(tactic| walk_at "few") => `(tactic| (simp only [List.length_cons, List.length_nil]; with_unfolding_all decide))
local macro_rules | `(tactic| walk_at "zo") => `(tactic| (with_reducible first
  | refine z_add ?_ | refine z_sub ?_ | refine z_lt ?_ | refine z_le ?_ | refine z_gt ?_ | refine z_ge ?_ | refine z_eq ?_ | refine z_ne ?_ | refine z_neg ?_ | refine z_int ?_ | refine z_max ?_ | refine z_min ?_ | refine z_abs ?_
  | refine z_eqS ?_ | refine z_neS ?_ | refine z_eqIS ?_ | refine z_eqSI ?_ | refine z_neIS ?_ | refine z_neSI ?_ | refine z_eqB ?_ | refine z_neB ?_ | refine z_eqN ?_ | refine z_neN ?_ | refine z_is ?_ | refine z_isNot ?_ | refine z_isB ?_ | refine z_isNotB ?_ | refine z_isbb ?_ | refine z_isbi ?_
  | refine z_ltS ?_ | refine z_leS ?_ | refine z_gtS ?_ | refine z_geS ?_ | refine z_isii ?_ | refine z_isib ?_))
local macro_rules | `(tactic| walk_at "zp") => `(tactic| with_reducible first
  | ((show uMul _ _ _ _); refine z_mul (by walk_at "mulok") ?_)
  | ((show uDiv _ _ _ _); refine z_div (by exact div1 (by omega)) ?_)
  | ((show uMod _ _ _ _); refine z_mod (by omega) ?_)
  | ((show uPow _ _ _ _); refine z_pow (by with_unfolding_all exact ⟨by decide, by decide, by decide⟩) ?_; (simp only [Int.reduceToNat, Int.reducePow]))
  | ((show uIx _ _ _ _ _); refine z_ix (by walk_at "sq") (by first | with_unfolding_all rfl | assumption) ?_)
  | ((show uLen _ _ _ _); refine z_len (by walk_at "sq") ?_)
  | ((show uList _ _ _ _); refine z_list (by walk_at "sq") ?_; intro _ _)
  | ((show uSl _ (V.ref _) _ _ _ _); refine z_slL (by walk_at "sqL") ?_; intro _ _)
  | ((show rSetL _ _ _ _ _); refine z_setL (by walk_at "lk") (by with_unfolding_all rfl) ?_)
  | ((show tyV _ "list" _ _ ∧ _); refine ⟨tyL (by walk_at "lk"), ?_⟩)
  | ((show uIsi _ [_, V.ty "list"] _ _); refine z_isll (by walk_at "lk") ?_)
  | ((show uIsi _ [_, V.ty "tuple"] _ _); refine z_istt (by walk_at "lk") ?_)
  | ((show zNewL _ _ _); refine z_newL (by walk_at "few") ?_; intro _ _)
  | ((show zNewT _ _ _); refine z_newT (by walk_at "few") ?_; intro _ _))
local macro_rules | `(tactic| walk_at "ze") => `(tactic| (with_reducible first
  | ((show tVar _ _ _ _); refine z_var (by with_unfolding_all rfl) ?_) | refine z_c ?_ | refine z_op ?_ | refine z_cons ?_ | refine z_nil ?_ | refine z_cal ?_ | refine z_cb ?_ | refine z_test ?_ | refine z_bl ?_ | refine z_un ?_
  | refine z_tru ?_ | refine z_trub ?_ | refine z_trui ?_ | refine z_and ?_ | refine z_or ?_ | refine z_not ?_ | refine z_andV ?_ | refine z_orV ?_ | refine z_notV ?_ | refine z_bl1 ?_ | refine z_if ?_ | refine z_lst ?_ | refine z_tup ?_ | refine z_chain ?_))
local macro_rules | `(tactic| walk_at "zs") => `(tactic| (with_reducible first
  | refine z_seq ?_ | refine z_asg ?_ | refine z_ifS ?_ | refine z_ret ?_ | refine z_drop ?_ | refine z_next ?_ | refine z_brk ?_ | refine z_cont ?_ | refine z_retN ?_ | refine z_iteT ?_ | refine z_iteF ?_ | refine z_for1 ?_ | refine z_for2 ?_ | refine z_asgS ?_ | refine z_bm ?_ | refine z_forSq ?_ | refine z_forZ ?_ | refine z_forE ?_ | refine z_lcE ?_ | refine z_lcZ ?_ | refine z_fldt ?_ | refine z_sett ?_ | refine z_lcSq ?_ | refine z_lc1 ?_ | refine z_yes ?_ | refine z_gName ?_ | refine z_sl ?_ | refine z_part ?_ | refine z_noPart ?_ | refine z_parti ?_))
local macro_rules | `(tactic| walk_at "z") => `(tactic| first | walk_at "ze" | walk_at "zo" | walk_at "zs" | walk_at "zp" | (dsimp only [List.set]))
local macro_rules | `(tactic| walk_at "zz") => `(tactic| repeat (walk_at "z"))
local macro_rules | `(tactic| walk_at "zd") => `(tactic| ((with_reducible show ite _ _ _); first | refine z_iteT' (by decide +kernel) ?_ | refine z_iteF' (by decide +kernel) ?_))
local macro_rules | `(tactic| walk_at "zx") => `(tactic| repeat (first | walk_at "z" | walk_at "zd"))

/-! ### the draws of a law -/
-- _law_row(_law_script, _law_k): slots 0:_law_script 1:_law_k 2:_law_cell 3:_law_a 4:_law_b 5:_law_c
def T_law_row (K : PySem.W.Frag) : TS :=
    (tSeq (tAsg (tC (.int 0)) (gName 2))
    (tCut (tIfS (tTest (tOp (uLt K) (tVar 1) (tCB (uLen K) (tCons (tVar 0) tNil)))) (tAsg (tOp (uIx K) (tVar 0) (tVar 1)) (gName 2)) tNext)
    (tCut (tIfS (tTest (tOp (uLt K) (tVar 2) (tC (.int 0)))) (tAsg (tOp uSub (tOp uMul (tUn uNeg (tC (.int 2))) (tVar 2)) (tC (.int 1))) (gName 2)) tNext)
    (tCut (tIfS (tTest (tOp (uLt K) (tVar 2) (tOp uPow (tC (.int 10)) (tC (.int 9))))) (tSeq (tAsg (tOp uMod (tCB uInt (tCons (tOp (uAdd K) (tOp (uAdd K) (tOp uMul (tVar 2) (tC (.int 48271))) (tOp uMul (tVar 1) (tC (.int 69621)))) (tC (.int 11))) tNil)) (tC (.int 2147483647))) (gName 3))
    (tSeq (tAsg (tOp uMod (tCB uInt (tCons (tOp (uAdd K) (tOp (uAdd K) (tOp (uAdd K) (tOp uMul (tVar 3) (tC (.int 16807))) (tOp uMul (tVar 2) (tC (.int 7)))) (tVar 1)) (tC (.int 5))) tNil)) (tC (.int 2147483629))) (gName 4))
    (tSeq (tAsg (tOp uMod (tCB uInt (tCons (tOp (uAdd K) (tOp (uAdd K) (tOp uMul (tVar 4) (tC (.int 39373))) (tOp uMul (tVar 3) (tVar 4))) (tC (.int 3))) tNil)) (tC (.int 2147483587))) (gName 5))
    (tAsg (tOp (uAdd K) (tOp (uAdd K) (tVar 3) (tOp uMul (tVar 4) (tC (.int 2147483647)))) (tOp uMul (tVar 5) (tOp uPow (tC (.int 2147483647)) (tC (.int 2))))) (gName 2))))) tNext)
    (tRet (tVar 2))))))
def sp_law_row (K : PySem.W.Frag) : Sp := fun vs H Q _ => ∃ (L : Addr) (ns : List Int) (k : Int), vs = [.ref L, .int k] ∧ SqL K H L (ns.map V.int) ∧ 0 ≤ k ∧ ∀ c : Int, 0 ≤ c → Q (.int c) H
theorem r_law_row {K : PySem.W.Frag} {L : Addr} {ns : List Int} {k : Int} {H : Hp} {D : Ends} (hL : SqL K H L (ns.map V.int)) (hk : 0 ≤ k) (q : ∀ c : Int, 0 ≤ c → D.rt (.int c) H) :
    T_law_row K D [some (.ref L), some (.int k), none, none, none, none] H := by
  unfold T_law_row
  walk_at "zz"
  refine z_cut (fun σ H' => H = H' ∧ ∃ c : Int, σ = [some (.ref L), some (.int k), some (.int c), none, none, none]) ?_ ?_
  · walk_at "zz"
    refine z_itD (fun c => ?_) (fun c => ?_)
    · walk_at "zz"
      refine z_ix (.inl hL) (at_int hk (by simpa using c)) ?_
      walk_at "zz"
      exact ⟨rfl, _, rfl⟩
    · walk_at "zz"
      exact ⟨rfl, _, rfl⟩
  rintro σ H' ⟨rfl, c, rfl⟩
  refine z_cut (fun σ H' => H = H' ∧ ∃ c : Int, 0 ≤ c ∧ σ = [some (.ref L), some (.int k), some (.int c), none, none, none]) ?_ ?_
  · walk_at "zz"
    refine z_itD (fun c => ?_) (fun c => ?_)
    · walk_at "zz"
      exact ⟨rfl, _, by omega, rfl⟩
    · walk_at "zz"
      exact ⟨rfl, _, by omega, rfl⟩
  rintro σ H' ⟨rfl, c, hc, rfl⟩
  refine z_cut (fun σ H' => H = H' ∧ ∃ (c : Int) (x y z : Option V), 0 ≤ c ∧ σ = [some (.ref L), some (.int k), some (.int c), x, y, z]) ?_ ?_
  · walk_at "zz"
    refine z_itD (fun h => ?_) (fun h => ?_)
    · walk_at "zz"
      refine ⟨rfl, _, _, _, _, ?_, rfl⟩
      omega
    · walk_at "zz"
      exact ⟨rfl, _, _, _, _, hc, rfl⟩
  rintro σ H' ⟨rfl, c, x, y, z, hc, rfl⟩
  walk_at "zz"
  exact q c hc
-- _law_next(_law_state, _law_many): slots 0:_law_state 1:_law_many 2:_law_drawn
def T_law_next (K : PySem.W.Frag) : TS :=
    (tCut (tIfS (tTest (tOp (uLt K) (tOp (uIx K) (tVar 0) (tC (.int 2))) (tVar 1))) (tSeq (tAsg (tCal (sp_law_row K) (tCons (tOp (uIx K) (tVar 0) (tC (.int 0))) (tCons (tOp (uIx K) (tVar 0) (tC (.int 1))) tNil))) (gSub (tVar 0) (tC (.int 2)) rSetL))
    (tAsg (tOp (uAdd K) (tOp (uIx K) (tVar 0) (tC (.int 1))) (tC (.int 1))) (gSub (tVar 0) (tC (.int 1)) rSetL))) tNext)
    (tSeq (tAsg (tOp uMod (tCB uInt (tCons (tOp (uIx K) (tVar 0) (tC (.int 2))) tNil)) (tVar 1)) (gName 2))
    (tSeq (tAsg (tOp uDiv (tOp (uIx K) (tVar 0) (tC (.int 2))) (tVar 1)) (gSub (tVar 0) (tC (.int 2)) rSetL))
    (tRet (tVar 2)))))
/-- the state of the draws stands at st, the script's copy at L -/
structure Draw (H : Hp) (st L : Addr) : Prop where
  ex : ∃ (ns : List Int) (k a : Int), H st = some (.lst [.ref L, .int k, .int a]) ∧ H L = some (.lst (ns.map V.int)) ∧ L ≠ st ∧ 0 ≤ k ∧ 0 ≤ a
theorem Draw.ne {H : Hp} {st L p : Addr} (h : H p = none) (d : Draw H st L) : p ≠ st := by
  obtain ⟨_, _, _, e, _⟩ := d.ex
  exact (ne_of_none e h).symm
theorem Draw.neL {H : Hp} {st L p : Addr} (h : H p = none) (d : Draw H st L) : p ≠ L := by
  obtain ⟨_, _, _, _, e, _⟩ := d.ex
  exact (ne_of_none e h).symm
theorem Draw.new {H : Hp} {st L p : Addr} {o : HO} (h : H p = none) (d : Draw H st L) : Draw (upd H p o) st L := by
  obtain ⟨ns, k, a, e, s, n, hk, ha⟩ := d.ex
  exact ⟨ns, k, a, lk_ne (ne_of_none e h) e, lk_ne (ne_of_none s h) s, n, hk, ha⟩
theorem Draw.same {H H' : Hp} {st L : Addr} (x : Same H H') (d : Draw H st L) : Draw H' st L := by
  obtain ⟨ns, k, a, e, s, n, hk, ha⟩ := d.ex
  exact ⟨ns, k, a, x _ _ e, x _ _ s, n, hk, ha⟩
theorem Draw.put {H : Hp} {st L p : Addr} {o : HO} (h1 : p ≠ st) (h2 : p ≠ L) (d : Draw H st L) : Draw (upd H p o) st L := by
  obtain ⟨ns, k, a, e, s, n, hk, ha⟩ := d.ex
  exact ⟨ns, k, a, lk_ne h1.symm e, lk_ne h2.symm s, n, hk, ha⟩
theorem Draw.back {H H' : Hp} {st L p : Addr} (d : Draw H' st L) (x : ExD H H') (h : H' p = none) (hs : ∀ L k a, H p = some (.lst [.ref L, .int k, .int a]) → p = st) : H p = none := by
  cases e : H p with
  | none => rfl
  | some o =>
    by_cases n : NotSt o
    · have := x p o n e
      rw [h] at this; cases this
    · exfalso
      apply n
      rintro L k a rfl
      exact Draw.ne h d (hs L k a e)
def sp_law_next (K : PySem.W.Frag) : Sp := fun vs H Q _ => ∃ (st L : Addr) (m : Int), vs = [.ref st, .int m] ∧ Draw H st L ∧ 0 < m ∧ m < 1000000000000000000 ∧ ∀ (r : Int) (H' : Hp), 0 ≤ r → r < m → Draw H' st L → ExD H H' → Q (.int r) H'
theorem law_row_c {K : PySem.W.Frag} {L : Addr} {k : Int} {H : Hp} {Q : VK} {E : XK} {ns : List Int} (hL : SqL K H L (ns.map V.int)) (hk : 0 ≤ k) (q : ∀ c : Int, 0 ≤ c → Q (.int c) H) : sp_law_row K [.ref L, .int k] H Q E := ⟨L, ns, k, rfl, hL, hk, q⟩
theorem r_law_next {K : PySem.W.Frag} {st L : Addr} {m : Int} {H : Hp} {D : Ends} (d : Draw H st L) (h0 : 0 < m) (h1 : m < 1000000000000000000) (q : ∀ (r : Int) (H' : Hp), 0 ≤ r → r < m → Draw H' st L → ExD H H' → D.rt (.int r) H') :
    T_law_next K D [some (.ref st), some (.int m), none] H := by
  obtain ⟨ns, k, a, e, sL, n, hk, ha⟩ := d.ex
  have s : SqL K H L (ns.map V.int) := SqL.of sL
  unfold T_law_next
  refine z_cut (fun σ H' => ∃ k a : Int, H' = upd H st (.lst [.ref L, .int k, .int a]) ∧ 0 ≤ k ∧ 0 ≤ a ∧ σ = [some (.ref st), some (.int m), none]) ?_ ?_
  · walk_at "zz"
    refine z_itD (fun h => ?_) (fun h => ?_)
    · walk_at "zz"
      refine law_row_c s hk fun c hc => ?_
      walk_at "zz"
      refine ⟨k + 1, c, ?_, by omega, hc, rfl⟩
      simp only [upd_upd]; rfl
    · walk_at "zz"
      exact ⟨k, a, (upd_self e).symm, hk, ha, rfl⟩
  rintro σ H' ⟨k, a, rfl, hk, ha, rfl⟩
  walk_at "zz"
  refine q _ _ (Int.emod_nonneg _ (by omega)) (Int.emod_lt_of_pos _ h0) ⟨ns, k, a / m, upd_same, ?_, n, hk, Int.ediv_nonneg ha (by omega)⟩ ?_
  · exact lk_ne n (lk_ne n sL)
  · exact ExD.st e (ExD.st e (ExD.refl H))
theorem law_next_c {K : PySem.W.Frag} {st L : Addr} {m : Int} {H : Hp} {Q : VK} {E : XK} (d : Draw H st L) (h0 : 0 < m) (h1 : m < 1000000000000000000) (q : ∀ (r : Int) (H' : Hp), 0 ≤ r → r < m → Draw H' st L → ExD H H' → Q (.int r) H') : sp_law_next K [.ref st, .int m] H Q E :=
  ⟨st, L, m, rfl, d, h0, h1, q⟩
-- _law_is_integer(_law_actual): slots 0:_law_actual
def T_law_is_integer (K : PySem.W.Frag) : TS :=
    (tRet (tAndV (tCB (uIsi K) (tCons (tVar 0) (tCons (tC (.ty "int")) tNil))) (tNotV (tCB (uIsi K) (tCons (tVar 0) (tCons (tC (.ty "bool")) tNil))))))
def sp_law_is_integer (K : PySem.W.Frag) : Sp := fun vs H Q _ => ∃ i : Int, vs = [.int i] ∧ Q (.bl true) H
theorem r_law_is_integer {K : PySem.W.Frag} {i : Int} {H : Hp} {D : Ends} (q : D.rt (.bl true) H) : T_law_is_integer K D [some (.int i)] H := by
  unfold T_law_is_integer
  walk_at "zz"
  exact q
theorem Draw.start {H : Hp} {l p : Addr} {ns : List Int} (h1 : H l = none) (h2 : upd H l (.lst (ns.map V.int)) p = none) : Draw (upd (upd H l (.lst (ns.map V.int))) p (.lst [.ref l, .int 0, .int 0])) p l := by
  have ne : l ≠ p := ne_of_none (H := upd H l (.lst (ns.map V.int))) upd_same h2
  exact ⟨ns, 0, 0, upd_same, lk_ne ne upd_same, ne, by decide, by decide⟩
def sp_law (K : PySem.W.Frag) : Sp := fun vs H Q _ => ∃ (a : Addr) (ns : List Int), vs = [.ref a] ∧ SqL K H a (ns.map V.int) ∧ ns.length ≤ 63 ∧ ∀ H', Q (.bl true) H'
abbrev N_law_row : List Str := ["_law_script", "_law_k", "_law_cell", "_law_a", "_law_b", "_law_c"]
theorem w_law_row {K : PySem.W.Frag} : Wd (T_law_row K) N_law_row 2 (sp_law_row K) := fun vs H Q E h => by
  obtain ⟨L, ns, k, rfl, h1, h2, q⟩ := h
  exact ⟨rfl, r_law_row h1 h2 q⟩
abbrev N_law_next : List Str := ["_law_state", "_law_many", "_law_drawn"]
theorem w_law_next {K : PySem.W.Frag} : Wd (T_law_next K) N_law_next 2 (sp_law_next K) := fun vs H Q E h => by
  obtain ⟨st, L, m, rfl, d, h0, h1, q⟩ := h
  exact ⟨rfl, r_law_next d h0 h1 q⟩
abbrev N_law_is_integer : List Str := ["_law_actual"]
theorem w_law_is_integer {K : PySem.W.Frag} : Wd (T_law_is_integer K) N_law_is_integer 1 (sp_law_is_integer K) := fun vs H Q E h => by
  obtain ⟨i, rfl, q⟩ := h
  exact ⟨rfl, r_law_is_integer q⟩

local macro_rules | `(tactic| walk_at "dr") => `(tactic| with_reducible first | assumption | ((show Draw (upd _ _ _) _ _); first | exact Draw.new (by assumption) (by walk_at "dr") | exact Draw.put (by walk_at "ne") (by walk_at "ne") (by walk_at "dr")) | exact Draw.same (by assumption) (by walk_at "dr"))
local macro_rules | `(tactic| walk_at "nx") => `(tactic| (refine law_next_c (by walk_at "dr") (by first | decide | omega) (by first | decide | omega) ?_))

/-! enumerate over a list or a tuple -/
section
open PySem.AutoSeq1 (wpAny_loadPart')
abbrev itT (l : Addr) : Obj := { cls := .type "tuple_iterator", data := .fields #[.ref l, .int 0 0] }
abbrev enT (h : Heap) : Obj := { cls := .type "enumerate", data := .fields #[.none, .bool false, .ref h.objs.size, rawInt 0, .none, .none] }
theorem new_enumT (l : Addr) (us : Array Value) (n : Nat) (dd : Option Addr) (ss : Array (Option Value)) :
    Meets (Builtin.«enumerate.__new__» ⟨[.type "enumerate", .ref l], []⟩) (fun _ R s => s.heap.get? l = some { cls := .type "tuple", dict := dd, data := .seq us n, slots := ss } ∧
      R (.ok (.ret (.ref (s.heap.push (itT l)).objs.size))) { s with heap := (s.heap.push (itT l)).push (enT s.heap) }) :=
  .of_wp fun prog w A R s h => by
    obtain ⟨hp, gg, dr, tk, os⟩ := s
    obtain ⟨hl, q⟩ := h
    have se := sub_enumerate
    have isT : Heap.IsTuple (Shared.heap ⟨hp, gg, dr, tk, os⟩) l us := ⟨_, hl, rfl, n, rfl⟩
    wp_walk using wpAny_loadPart' hl
    refine wpAny_stack_any fun st => wpAny_pure ?_
    split
    · rename_i cc _ _ _ _ _
      cases (cc == Value.type "enumerate") <;> (wp_walk using wpAny_loadPart' hl, wpAny_pyIter_tuple isT; exact ⟨_, rfl, q⟩)
    · wp_walk using wpAny_loadPart' hl, wpAny_pyIter_tuple isT
      exact ⟨_, rfl, q⟩
theorem call_enumT {prog : Program} {w : World} {A : Around} {E : Value → Shared → Prop} {s : Shared} {l : Addr} {us : Array Value} {Q : Value → Shared → Prop} (hT : s.heap.IsTuple l us)
    (h : ∀ h', IsEnum h' (s.heap.objs.size + 1) s.heap.objs.size 0 .none → h'.IsTupleIter s.heap.objs.size l 0 → (∀ b o, s.heap.get? b = some o → h'.get? b = some o) → Q (.ref (s.heap.objs.size + 1)) { s with heap := h' }) :
    wpAny (model prog w) A (call (.type "enumerate") [.ref l]) Q E s := by
  obtain ⟨⟨cc, dd, dt, ss⟩, hl, h1, n, h2⟩ := hT
  simp only at h1 h2
  subst h1 h2
  have zz : (s.heap.push (itT l)).objs.size = s.heap.objs.size + 1 := Heap.size_push ..
  have en : IsEnum ((s.heap.push (itT l)).push (enT s.heap)) (s.heap.objs.size + 1) s.heap.objs.size 0 .none := by
    have g := Heap.get?_push_size (s.heap.push (itT l)) (o := enT s.heap) rfl
    rw [zz] at g; exact g
  refine callType_new F.called_enumerate (by decide) (F.typeCall_enumerate_1 _) (F.newCall_enumerate_1 _) (fun obj => F.args_object_init_2 obj _) F.entry_enumerate_new (new_enumT l us n dd ss) ⟨hl, ?_⟩
  show _ ∧ _
  rw [zz]
  exact ⟨⟨_, en, rfl⟩, h _ en ⟨_, Heap.get?_push_of_some _ (Heap.get?_push_size _ rfl), rfl, rfl⟩ fun b o x => Heap.get?_push_of_some _ (Heap.get?_push_of_some _ x)⟩
end
/-- the tuple at a as it stands at each turn, place and item in a new pair -/
def IteT (K : PySem.W.Frag) (a : Addr) : It :=
  ⟨fun i H => ∃ (xs : List V) (x : V), SqT K H a xs ∧ xs[i]? = some x, fun i H v H' => ∃ T x, v = .ref T ∧ H T = none ∧ H' = upd H T (.tup [.int (i : Nat), x]) ∧ ∀ xs, SqT K H a xs → xs[i]? = some x, fun i H => ∃ xs : List V, SqT K H a xs ∧ xs.length ≤ i⟩
theorem turn_enumT {P : Program} {w : World} {K : PySem.W.Frag} {elts : List Expr} {kk : Nat} {tpos : Pos} (a e it : Addr) :
    Turn P w K (.Tuple elts kk tpos) (IteT K a) [e, it] e (fun i h => (∃ old, IsEnum h e it ((i : Nat) : Int) old) ∧ h.IsTupleIter it a i ∧ e ≠ it) where
  mem := by simp
  obj := fun i h st b hb => by
    obtain ⟨⟨old, en⟩, ⟨o, ho, _, dt⟩, _⟩ := st
    rcases (show b = e ∨ b = it by simpa using hb) with z | z
    · rw [z]; exact ⟨_, en, fun v q => nomatch q⟩
    · rw [z]; exact ⟨o, ho, fun v q => by rw [dt] at q; cases q⟩
  keep := fun i h h' st k => let ⟨⟨old, en⟩, ⟨o, ho, hi⟩, ne⟩ := st; ⟨⟨old, k e (by simp) _ en⟩, ⟨o, k it (by simp) _ ho, hi⟩, ne⟩
  item := by
    intro X hP hw hK hc i pins s σ H E I hf st hg
    subst hP hw hK
    obtain ⟨⟨old, en⟩, hit, ne⟩ := st
    obtain ⟨xs, x, hq, hx⟩ := hg
    obtain ⟨us, rv, p, _⟩ := I.tuple hq
    obtain ⟨u, hu, ru⟩ := rv.get hx
    have p2 : s.heap.IsTuple a us.toArray := p
    have lt1 : e < s.heap.objs.size := Heap.lt_size en
    have lt2 : it < s.heap.objs.size := by obtain ⟨_, q, _⟩ := hit; exact Heap.lt_size q
    have ne2 : a ≠ it := fun z => by
      obtain ⟨o1, g1, c1, _⟩ := hit
      obtain ⟨o2, g2, c2, _⟩ := id p2
      rw [z, g1] at g2; cases g2; rw [c1] at c2; exact absurd c2 (by decide)
    have ne3 : e ≠ a := fun z => by
      obtain ⟨o2, g2, c2, _⟩ := id p2
      rw [← z, show s.heap.get? e = _ from en] at g2; cases g2; exact absurd (show Value.type "enumerate" = Value.type "tuple" from c2) (by decide)
    have hlt : i < us.toArray.size := by
      obtain ⟨l, _⟩ := List.getElem?_eq_some_iff.mp hu
      simpa using l
    refine wpAny_pyNext_enum_itemD (Draws.tuple (A := X.A.in1) (I.ok.hd hc) it a ne2 us.toArray) en ⟨hit, p2⟩ hlt ne (by simp [ne, ne3]) fun y h' tk hy out st2 hT _ hk => ?_
    have ey : y = u := by
      have z : us.toArray[i]? = some y := hy
      rw [show us.toArray[i]? = us[i]? by simp] at z
      rw [hu] at z; exact (Option.some.inj z).symm
    subst ey
    refine ⟨_, rfl, wpAny_letOwnedTupleGo_enum (s := { s with heap := h', toks := tk + 1 }) out fun h'' en2 sb => ?_⟩
    have hT2 : h''.get? s.heap.objs.size = some { cls := .type "tuple", data := .seq #[.int i tk, y] } := (sb.2 _ (Nat.ne_of_gt lt1)).trans hT
    have nw : ObjOk X.prog X.w (upd H s.heap.objs.size (.tup [.int (i : Nat), x])) h'' s.heap.objs.size (.tup [.int (i : Nat), x]) :=
      ⟨by show 2 ≤ sizeLine; decide, [.int i tk, y], .cons ⟨_, rfl⟩ (.cons ru .nil), ⟨_, hT2, rfl, _, rfl⟩⟩
    have J : Inv X pins σ (upd H s.heap.objs.size (.tup [.int (i : Nat), x])) { s with heap := h'', toks := tk + 1 } :=
      I.turnedNew (ch := [e, it]) (fun b ob hb q => (sb.2 b (fun z => hb (by simp [z]))).trans (hk b ob (fun z => hb (by simp [z])) (fun z => hb (by simp [z])) q)) hf (Nat.le_refl _) nw
    have hit2 : h''.IsTupleIter it a (i + 1) := by
      obtain ⟨o, g, r⟩ := st2.1
      exact ⟨o, (sb.2 it (Ne.symm ne)).trans g, r⟩
    refine ⟨.ref s.heap.objs.size, _, J, rfl, ⟨_, x, rfl, I.hok.fresh (Nat.le_refl _), rfl, fun ys hy => by rw [I.tuple_inj hy hq]; exact hx⟩, ⟨⟨y, ?_⟩, hit2, ne⟩, fun b hb => ?_⟩
    · rw [show ((i + 1 : Nat) : Int) = (i : Int) + 1 by omega]; exact en2
    · have lt : b < s.heap.objs.size := by
        rcases (show b = e ∨ b = it by simpa using hb) with z | z
        · rw [z]; exact lt1
        · rw [z]; exact lt2
      rw [upd_ne (Nat.ne_of_lt lt)]
      exact (hf b hb).1
  done := by
    intro X hP hw hK hc i pins s σ H E I hf st hg
    subst hP hw hK
    obtain ⟨⟨old, en⟩, hit, ne⟩ := st
    obtain ⟨xs, hq, hx⟩ := hg
    obtain ⟨us, rv, p, _⟩ := I.tuple hq
    have p2 : s.heap.IsTuple a us.toArray := p
    have len := rv.length
    obtain ⟨f0, f1, f2, f3, f4, f5⟩ := hf it (by simp)
    have hT : s.TypeIs (.ref e) "enumerate" := ⟨_, en, rfl⟩
    unfold pyNext
    refine wpAny_bind (wpAny_attempt (wpAny_callSpecial?_slot (name := Str.ofString "__next__") hT F.slot_enumerate_next (wpAny_call_entry F.slot_enumerate_next hT F.entry_enumerate_next ?_ (F.args_enumerate_next_1 _))))
    show wpAny _ _ (field (.ref e) 2 >>= _) _ _ _
    refine wpAny_bind (wpAny_field en rfl (x := .ref it) rfl ?_)
    refine wpAny_bind (wpAny_nextOf_tuple_end (I.ok.hd hc) hit p2 (by simp; omega) fun h' x eb hx' => ?_)
    obtain ⟨o, ho, co⟩ := hx'
    refine wpAny_bind (wpAny_isInstance (T := "StopIteration") (b := true) ⟨o, ho, co⟩ isSubtype_stop ?_)
    exact wpAny_pure ⟨rfl, I.turned (t' := s.toks) (fun b o hb q => eb b o hb q) f0 f1 f3 f4 f5⟩
  self := fun A i s Q E st h => let ⟨⟨_, en⟩, _⟩ := st; wpAny_pyIter_enum en h
def iEnumA (K : PySem.W.Frag) (ta : TA) : TI := fun σ H R => ta σ H fun vs H1 => ∃ a xs, vs = [.ref a] ∧ ((SqL K H1 a xs ∧ R (Ite K a) H1) ∨ (SqT K H1 a xs ∧ R (IteT K a) H1))
theorem pi_enumA {X : Cx} {e : Expr} {ta : TA} {p pos tpos : Pos} {elts : List Expr} {kk : Nat} (hg : Gl X "enumerate") (hm : X.mg "enumerate" = none) (ha : PA X [e] ta) (hs : starEach [e] X.env = [(false, eval e X.env)] := by rfl) :
    PI X (.Tuple elts kk tpos) (.Call (.Name "enumerate" p) [e] [] pos) (iEnumA X.K ta) := by
  refine ⟨fun pins s σ H R I h => PyProof.Rows.Call_ (ld_blt I hg hm PyProof.Rows.boot_enumerate (PyProof.Rows.callWith_type1 (thn (ha.run pos pins s σ H _ I h) fun us s1 ⟨vs, H1, I1, r1, q1⟩ => ?_) hs rfl))⟩
  obtain ⟨a, xs, ex, q1⟩ := q1
  subst ex
  obtain ⟨u, eu, r⟩ := Vals.one r1
  subst eu
  cases r
  have fr : ∀ b, b ∈ [s1.heap.objs.size + 1, s1.heap.objs.size] → FpOk X pins H1 b := fun b hb => by
    have le : s1.heap.objs.size ≤ b := by
      rcases (show b = s1.heap.objs.size + 1 ∨ b = s1.heap.objs.size by simpa using hb) with z | z <;> omega
    exact I1.fpOk le (I1.hok.fresh le)
  rcases q1 with ⟨hq, q⟩ | ⟨hq, q⟩
  · obtain ⟨us, rv, p, _⟩ := I1.list hq
    refine call_enumerate_list p.isList fun h' en hit _ hk => wpAny_pyIter_enum en ?_
    exact ⟨s1.heap.objs.size + 1, [s1.heap.objs.size + 1, s1.heap.objs.size], _, _, H1, rfl, I1.kept (t' := s1.toks) hk, turn_enum a (s1.heap.objs.size + 1) s1.heap.objs.size, ⟨⟨.none, en⟩, hit, Nat.succ_ne_self _⟩, fr, q⟩
  · obtain ⟨us, rv, p, _⟩ := I1.tuple hq
    refine call_enumT (show s1.heap.IsTuple a us.toArray from p) fun h' en hit hk => wpAny_pyIter_enum en ?_
    exact ⟨s1.heap.objs.size + 1, [s1.heap.objs.size + 1, s1.heap.objs.size], _, _, H1, rfl, I1.kept (t' := s1.toks) hk, turn_enumT a (s1.heap.objs.size + 1) s1.heap.objs.size, ⟨⟨.none, en⟩, hit, Nat.succ_ne_self _⟩, fr, q⟩
/-! the steps -/
def zEnumA (K : PySem.W.Frag) (g : TG) (tb : TS) (D : Ends) (σ : L2.St) (vs : List V) (H1 : Hp) : Prop := ∃ a xs, vs = [.ref a] ∧ ((SqL K H1 a xs ∧ ∃ W : Nat → Nat → L2.St → Hp → Prop, (∃ m, W 0 m σ H1) ∧ ∀ i m σ H, W i m σ H →
  ((Ite K a).stop i H ∧ D.nx σ H) ∨ ((Ite K a).go i H ∧ ∃ N : L2.St → Hp → Prop, (∀ σ' H', N σ' H' → ∃ m', m' < m ∧ W (i + 1) m' σ' H') ∧ ∀ x H', (Ite K a).yld i H x H' → g x σ H' fun σ2 H2 => tb { D with nx := N, ct := N, bk := D.nx } σ2 H2)) ∨
  (SqT K H1 a xs ∧ ∃ W : Nat → Nat → L2.St → Hp → Prop, (∃ m, W 0 m σ H1) ∧ ∀ i m σ H, W i m σ H →
  ((IteT K a).stop i H ∧ D.nx σ H) ∨ ((IteT K a).go i H ∧ ∃ N : L2.St → Hp → Prop, (∀ σ' H', N σ' H' → ∃ m', m' < m ∧ W (i + 1) m' σ' H') ∧ ∀ x H', (IteT K a).yld i H x H' → g x σ H' fun σ2 H2 => tb { D with nx := N, ct := N, bk := D.nx } σ2 H2)))
section
variable {K : PySem.W.Frag} {σ : L2.St} {H : Hp} {D : Ends} {ta : TA} {g : TG} {tb : TS} {a : Addr} {xs : List V}
theorem z_forEA (k : ta σ H fun vs H1 => zEnumA K g tb D σ vs H1) : tFor (iEnumA K ta) g tb D σ H := k
theorem z_enumA {u v : Nat} (h : SqL K H a xs ∨ SqT K H a xs) (Pv : Nat → L2.St → Hp → Prop) (h0 : Pv 0 σ H) (hk : ∀ i σ' H', Pv i σ' H' → Same H H')
    (hs : ∀ i x p σ' H', xs[i]? = some x → Pv i σ' H' → H' p = none → tb { D with nx := Pv (i + 1), ct := Pv (i + 1), bk := D.nx } ((σ'.set u (some (.int (i : Nat)))).set v (some x)) (upd H' p (.tup [.int (i : Nat), x])))
    (hd : ∀ σ' H', Pv xs.length σ' H' → D.nx σ' H') : zEnumA K (gTup K 2 (gCons (gName u) (gCons (gName v) gNil))) tb D σ [.ref a] H := by
  refine ⟨a, xs, rfl, ?_⟩
  rcases h with h | h
  · refine .inl ⟨h, fun i m σ H => m = xs.length - i ∧ i ≤ xs.length ∧ Pv i σ H, ⟨_, rfl, Nat.zero_le _, h0⟩, ?_⟩
    rintro i m σ' H' ⟨rfl, hi, p⟩
    have q1 := Same.seq (hk i σ' H' p) h
    by_cases hlt : i < xs.length
    · refine .inr ⟨⟨xs, xs[i], q1, by simp [hlt]⟩, Pv (i + 1), fun σ2 H2 p' => ⟨_, by omega, rfl, by omega, p'⟩, ?_⟩
      rintro x H2 ⟨T, x1, rfl, hT, rfl, f1⟩
      exact ⟨T, [.int (i : Nat), x1], rfl, .inl (.inl upd_same), rfl, .int (i : Nat), [x1], rfl, x1, [], rfl, rfl, hs i x1 T σ' H' (f1 xs q1) p hT⟩
    · have e : i = xs.length := by omega
      subst e
      exact .inl ⟨⟨xs, q1, by omega⟩, hd σ' H' p⟩
  · refine .inr ⟨h, fun i m σ H => m = xs.length - i ∧ i ≤ xs.length ∧ Pv i σ H, ⟨_, rfl, Nat.zero_le _, h0⟩, ?_⟩
    rintro i m σ' H' ⟨rfl, hi, p⟩
    have q1 := Same.sqT (hk i σ' H' p) h
    by_cases hlt : i < xs.length
    · refine .inr ⟨⟨xs, xs[i], q1, by simp [hlt]⟩, Pv (i + 1), fun σ2 H2 p' => ⟨_, by omega, rfl, by omega, p'⟩, ?_⟩
      rintro x H2 ⟨T, x1, rfl, hT, rfl, f1⟩
      exact ⟨T, [.int (i : Nat), x1], rfl, .inl (.inl upd_same), rfl, .int (i : Nat), [x1], rfl, x1, [], rfl, rfl, hs i x1 T σ' H' (f1 xs q1) p hT⟩
    · have e : i = xs.length := by omega
      subst e
      exact .inl ⟨⟨xs, q1, by omega⟩, hd σ' H' p⟩
end

/-! len(set(xs)) of numbers that may repeat -/
/-- the different ones, in the order in which they come -/
def ddZ (acc : List Int) : List Int → List Int
  | [] => acc
  | x :: xs => ddZ (if acc.any (· == x) then acc else acc ++ [x]) xs
theorem ddZ_snoc (x : Int) : ∀ (xs acc : List Int), ddZ acc (xs ++ [x]) = if (ddZ acc xs).any (· == x) then ddZ acc xs else ddZ acc xs ++ [x]
  | [], acc => rfl
  | y :: ys, acc => ddZ_snoc x ys _
theorem firstMet_ddZ (ns : List Int) : ∀ i, i ≤ ns.length → PyProof.Rows.firstMet (fun i => ns.getD i 0) i = ddZ [] (ns.take i)
  | 0, _ => rfl
  | i + 1, h => by
    have e : ns.take (i + 1) = ns.take i ++ [ns.getD i 0] := by
      rw [List.take_succ, List.getD_eq_getElem?_getD, List.getElem?_eq_getElem (show i < ns.length by omega)]; rfl
    rw [PyProof.Rows.firstMet_succ, firstMet_ddZ ns i (by omega), e, ddZ_snoc]
    rfl
theorem ddZ_le : ∀ (xs acc : List Int), (ddZ acc xs).length ≤ acc.length + xs.length
  | [], acc => Nat.le_refl _
  | x :: xs, acc => by
    have := ddZ_le xs (if acc.any (· == x) then acc else acc ++ [x])
    show (ddZ _ xs).length ≤ _
    split at this <;> rename_i h
    · rw [if_pos h]; simp; omega
    · rw [if_neg h]; simp at this ⊢; omega
theorem ddZ_eq : ∀ (xs acc : List Int), (ddZ acc xs).length = acc.length + xs.length ↔ xs.Nodup ∧ ∀ x ∈ xs, x ∉ acc
  | [], acc => by simp [ddZ]
  | x :: xs, acc => by
    show (ddZ _ xs).length = _ ↔ _
    by_cases h : acc.any (· == x) = true
    · rw [if_pos h]
      have := ddZ_le xs acc
      have hx : x ∈ acc := by
        obtain ⟨y, hy, e⟩ := List.any_eq_true.mp h
        rw [← eq_of_beq e]; exact hy
      constructor
      · intro z; simp at z; omega
      · intro z; exact absurd hx (z.2 x (List.mem_cons_self ..))
    · rw [if_neg h]
      have ih := ddZ_eq xs (acc ++ [x])
      have hx : x ∉ acc := fun hx => h (List.any_eq_true.mpr ⟨x, hx, beq_self_eq_true x⟩)
      rw [show acc.length + (x :: xs).length = (acc ++ [x]).length + xs.length by simp; omega, ih, List.nodup_cons]
      constructor
      · rintro ⟨h1, h2⟩
        refine ⟨⟨fun m => ?_, h1⟩, fun y hy => ?_⟩
        · exact h2 x m (by simp)
        · rcases List.mem_cons.mp hy with rfl | hy
          · exact hx
          · exact fun m => h2 y hy (by simp [m])
      · rintro ⟨⟨h1, h2⟩, h3⟩
        refine ⟨h2, fun y hy m => ?_⟩
        rcases List.mem_append.mp m with m | m
        · exact h3 y (List.mem_cons_of_mem _ hy) m
        · rw [List.mem_singleton.mp m] at hy; exact h1 hy
def setN (ns : List Int) : Nat := (ddZ [] ns).length
theorem setN_le (ns : List Int) : setN ns ≤ ns.length := by have := ddZ_le ns []; simpa [setN] using this
theorem setN_eq (ns : List Int) : setN ns = ns.length ↔ ns.Nodup := by
  have := ddZ_eq ns []
  simp only [List.length_nil, Nat.zero_add, List.not_mem_nil, not_false_eq_true, implies_true, and_true] at this
  exact this
theorem setN_lt (ns : List Int) : setN ns < ns.length ↔ ¬ ns.Nodup := by
  have h1 := setN_le ns
  have h2 := setN_eq ns
  constructor
  · intro h z; rw [← h2] at z; omega
  · intro h
    rcases Nat.lt_or_ge (setN ns) ns.length with q | q
    · exact q
    · exact absurd (h2.mp (by omega)) h
def tLenSet (K : PySem.W.Frag) (ta : TE) : TE := fun σ H Q => ta σ H fun x H1 => ∃ (l : Addr) (ns : List Int), x = .ref l ∧ SqL K H1 l (ns.map V.int) ∧ ns.length ≤ 4000 ∧ Q (.int (setN ns : Nat)) H1
theorem z_lenSetE {X : Cx} {a : Expr} {ta : TE} {p p2 q pos : Pos} (hg : Gl X "len") (m_len : X.mg "len" = none) (hg2 : Gl X "set") (m_set : X.mg "set" = none) (ha : PE X a ta) (hc : X.calm = true := by rfl)
    (na : starEach [a] X.env = (false, eval a X.env) :: starEach [] X.env := by rfl) : PE X (.Call (.Name "len" p) [.Call (.Name "set" p2) [a] [] q] [] pos) (tLenSet X.K ta) := by
  refine ⟨fun pins s σ H Q I h => PyProof.Rows.Call_ (ld_blt I hg m_len boot_len (PyProof.Rows.callWith_builtin1 (PyProof.Rows.args_cons (PyProof.Rows.Call_ (ld_blt I hg2 m_set PyProof.Rows.boot_set (PyProof.Rows.callWith_type1 (PyProof.Rows.args_cons (thn (ha.run pins s σ H _ I h) fun v s1 ⟨x, H1, I1, r1, q1⟩ => PyProof.Rows.args_nil ?_) na) na rfl))) rfl) rfl rfl))⟩
  obtain ⟨l, ns, rfl, hq, hl, q1⟩ := q1
  cases r1
  obtain ⟨us, r, pl, _⟩ := I1.list hq
  have nn : us.toArray.size = ns.length := by rw [List.size_toArray, ← r.length, List.length_map]
  refine PySem.call_set_list (I1.ok.hd hc) pl.isList (by simpa using RZ.intsAre_vals r) (by rw [nn]; unfold scanBound; omega) fun h' tk hS hk => PyProof.Rows.args_nil ?_
  rw [nn, firstMet_ddZ ns ns.length (Nat.le_refl _), List.take_length] at hS
  obtain ⟨o, es, ep, t, ho, hex, hd, _, _, _, hf, hn⟩ := hS
  have lt : (ddZ [] ns).length ≤ 4000 := Nat.le_trans (setN_le ns) hl
  have J : Inv X pins σ H1 { s1 with heap := h', toks := tk } := I1.kept fun b o e => hk b o (Heap.lt_size e) e
  exact call_len_set ho hex hd hf (by rw [hn]; omega) ⟨.int (setN ns : Nat), H1, J.tok _, ⟨_, by rw [hn]; rfl⟩, q1⟩
theorem z_lenSet {K : PySem.W.Frag} {ta : TE} {σ : L2.St} {H : Hp} {Q : VK} (k : ta σ H fun x H1 => ∃ (l : Addr) (ns : List Int), x = .ref l ∧ SqL K H1 l (ns.map V.int) ∧ ns.length ≤ 4000 ∧ Q (.int (setN ns : Nat)) H1) : tLenSet K ta σ H Q := k

/-! own classes: what is known of each, by its name -/
/-- where the classes stand, and which there are -/
structure CEnv where
  cls : Str → Addr
  has : Str → Prop
/-- the package's classes below another one -/
def SUBE : List (Str × Str) := [("InvalidSchema", "SurenearError"), ("InvalidRecord", "SurenearError"), ("InvalidKey", "SurenearError"), ("InvalidFilter", "SurenearError"), ("InvalidQuery", "SurenearError"), ("InvalidRule", "SurenearError"), ("InvalidCode", "SurenearError")]
def SUBE2 : List (Str × Str) := [("InvalidOperation", "SurenearError"), ("InvalidSource", "SurenearError"), ("NoSuchMoment", "SurenearError"), ("NotPinned", "SurenearError"), ("NoSuchQuery", "SurenearError"), ("NotNow", "SurenearError"), ("NotUp", "SurenearError")]
def SUBP : List (Str × Str) := [("Norms", "Fact"), ("Parts", "Fact"), ("Cell", "Fact"), ("Box", "Fact"), ("Differ", "Fact"), ("Counts", "Fact"), ("Names", "Fact"), ("Range", "FieldFact"), ("Values", "FieldFact"), ("Range", "Fact"), ("Values", "Fact"), ("FieldFact", "Fact"),
  ("Every", "Condition"), ("Has", "Condition"), ("Compare", "Condition"), ("OneOf", "Condition"), ("Both", "Condition"), ("Either", "Condition"), ("Negation", "Condition")]
def SUB (x y : Str) : Bool := x == y || SUBP.contains (x, y) || SUBE.contains (x, y) || SUBE2.contains (x, y)
structure ClsOk (K : PySem.W.Frag) (c : CEnv) (x : Str) (gs : List Str) : Prop where
  cl : Cls K (c.cls x)
  na : ∀ f, gs.contains f = true → NoAttr K (c.cls x) f
  ha : PySem.W.findIn K (.ref (c.cls x)) "__class__" = some (some (.builtin "object.__class__"))
  hn : PySem.W.specialIn K (.builtin "object.__class__") "__get__" = some (some (.builtin "getset_descriptor.__get__"))
  htk : PySem.W.takesIn K (.builtin "object.__class__") = some true
  hm : PySem.W.mroIn K (c.cls x) (.type "object") = some true
  sub : ∀ y, c.has y → PySem.W.kitOne K (.ref (c.cls x)) (.ref (c.cls y)) = some (SUB x y)
  sb : ∀ y, c.has y → PySem.W.subIn K (.ref (c.cls x)) (.ref (c.cls y)) = some (SUB x y)
/-- the class named, as isinstance asks of it -/
structure IsF (K : PySem.W.Frag) (c : CEnv) (x : Str) : Prop where
  has : c.has x
  ki : ∀ n, ["int", "bool", "str", "NoneType", "tuple", "list", "dict"].contains n = true → PySem.W.kitOne K (.type n) (.ref (c.cls x)) = some false
  si : ∀ n, ["int", "bool", "str", "NoneType", "tuple", "list", "dict"].contains n = true → PySem.W.subIn K (.type n) (.ref (c.cls x)) = some false
/-- an instance stands at p -/
def InsAt (K : PySem.W.Frag) (c : CEnv) (H : Hp) (p : Addr) (x : Str) (fs : List (Str × V)) : Prop := ClsOk K c x (fs.map (·.1)) ∧ ∃ dx, H p = some (.ins (c.cls x) dx fs)
theorem InsAt.same {K : PySem.W.Frag} {c : CEnv} {H H' : Hp} {p : Addr} {x : Str} {fs : List (Str × V)} (s : Same H H') (i : InsAt K c H p x fs) : InsAt K c H' p x fs := ⟨i.1, i.2.choose, s _ _ i.2.choose_spec⟩
theorem NotSt.ins {C dx : Addr} {fs : List (Str × V)} : NotSt (.ins C dx fs) := fun _ _ _ z => by cases z
theorem NotSt.tup {xs : List V} : NotSt (.tup xs) := fun _ _ _ z => by cases z
theorem InsAt.exd {K : PySem.W.Frag} {c : CEnv} {H H' : Hp} {p : Addr} {x : Str} {fs : List (Str × V)} (s : ExD H H') (i : InsAt K c H p x fs) : InsAt K c H' p x fs := ⟨i.1, i.2.choose, s _ _ NotSt.ins i.2.choose_spec⟩
theorem InsAt.new {K : PySem.W.Frag} {c : CEnv} {H : Hp} {p r : Addr} {x : Str} {fs : List (Str × V)} {o : HO} (h : H r = none) (i : InsAt K c H p x fs) : InsAt K c (upd H r o) p x fs := ⟨i.1, i.2.choose, lk_new h i.2.choose_spec⟩
theorem InsAt.putL {K : PySem.W.Frag} {c : CEnv} {H : Hp} {p r : Addr} {x : Str} {fs : List (Str × V)} {xs : List V} {o : HO} (h : H r = some (.lst xs)) (i : InsAt K c H p x fs) : InsAt K c (upd H r o) p x fs := ⟨i.1, i.2.choose, lk_df i.2.choose_spec h (fun z => by cases z)⟩
/-! ### making, methods, properties, == -/
structure Mkr (P : Program) (w : World) (K : PySem.W.Frag) (mg : Str → Option Value) (base : Heap) (k : Nat) (C : Addr) (ps : List Str) (sp : Sp) : Prop where
  ex : ∃ (f : Addr) (fd : FuncData), Mk K C f ∧ Binds K fd ps [] ∧ FnOk P w K mg base CX0 k f fd ps sp
structure Mth (P : Program) (w : World) (K : PySem.W.Frag) (mg : Str → Option Value) (base : Heap) (k : Nat) (C : Addr) (m : Str) (ps : List Str) (sp : Sp) : Prop where
  ex : ∃ (f : Addr) (fd : FuncData), Meth K C m f ∧ Binds K fd ps [] ∧ FnOk P w K mg base CX0 k f fd ps sp
structure Prp (P : Program) (w : World) (K : PySem.W.Frag) (mg : Str → Option Value) (base : Heap) (k : Nat) (C : Addr) (m : Str) (ps : List Str) (sp : Sp) : Prop where
  ex : ∃ (p f : Addr) (fd : FuncData), PropOf K C m p f ∧ Binds K fd ps [] ∧ FnOk P w K mg base CX0 k f fd ps sp
structure ClsF (K : PySem.W.Frag) (mg : Str → Option Value) (c : CEnv) (x : Str) (gs : List Str) : Prop where
  ok : ClsOk K c x gs
  is : c.has x → IsF K c x
  mg : mg x = some (.ref (c.cls x))
def tMk (K : PySem.W.Frag) (c : CEnv) (x : Str) (gs : List Str) (sp : Sp) (t : TA) : TE := fun σ H Q => t σ H fun vs H1 => ClsOk K c x gs → ∀ p dx, H1 p = none → H1 dx = none → dx ≠ p →
  sp (.ref p :: vs) (upd (upd H1 dx (.own p)) p (.ins (c.cls x) dx [])) (fun v H2 => v = .non ∧ Q (.ref p) H2) E0
def tMt (c : CEnv) (x m : Str) (sp : Sp) (ta : TE) (t : TA) : TE := fun σ H Q => ta σ H fun v H1 => ∃ a dx fs, v = .ref a ∧ H1 a = some (.ins (c.cls x) dx fs) ∧ fs.lookup m = none ∧ t σ H1 fun vs H2 => sp (v :: vs) H2 Q E0
def tPr (c : CEnv) (x : Str) (sp : Sp) (ta : TE) : TE := fun σ H Q => ta σ H fun v H1 => ∃ a dx fs, v = .ref a ∧ H1 a = some (.ins (c.cls x) dx fs) ∧ sp [.ref a] H1 Q E0
def tCls (K : PySem.W.Frag) (c : CEnv) (x : Str) : TE := fun _ H Q => IsF K c x → Q (.ref (c.cls x)) H
/-- == of two instances of one class, by its own __eq__ -/
def uEqO (c : CEnv) (x : Str) (sp : Sp) : R2 := fun u v H Q => ∃ a b dx dy fs gs, u = .ref a ∧ v = .ref b ∧ H a = some (.ins (c.cls x) dx fs) ∧ H b = some (.ins (c.cls x) dy gs) ∧ sp [.ref a, .ref b] H (fun z H' => ∃ k, z = .bl k ∧ Q (.bl k) H') E0
section
variable {X : Cx} {c : CEnv} {k : Nat} {x m : Str} {ps gs : List Str} {sp : Sp} {p pos apos : Pos} {e o : Expr} {es : List Expr} {t : TA} {ta : TE}
theorem z_make (CF : ClsF X.K X.mg c x gs) (M : Mkr X.prog X.w X.K X.mg X.base k (c.cls x) ps sp) (hr : Room (k + 1) X.A) (hg : Gl X x) (ha : PA X (e :: es) t) (hdb : (x == ("__debug__" : Str)) = false := by decide)
    (he : starEach (e :: es) X.env = (false, eval e X.env) :: starEach es X.env := by rfl) (hpl : (backTo pos (starEach es X.env)).any (·.1) = false := by rfl) : PE X (.Call (.Name x p) (e :: es) [] pos) (tMk X.K c x gs sp t) := by
  obtain ⟨f, fd, hM, hb, F⟩ := M.ex
  have h := pe_make (E := E0) (dvs := []) (p := p) (pos := pos) hM F hr hg CF.mg hb .nil pass0 ha hdb he hpl
  refine ⟨fun pins s σ H Q I q => h.run pins s σ H Q I ?_⟩
  simp only [tMake, List.append_nil]
  have e : (t σ H fun vs H1 => ClsOk X.K c x gs → ∀ p dx, H1 p = none → H1 dx = none → dx ≠ p → sp (.ref p :: vs) (upd (upd H1 dx (.own p)) p (.ins (c.cls x) dx [])) (fun v H2 => v = .non ∧ Q (.ref p) H2) E0)
      = (t σ H fun vs H1 => ∀ p dx, H1 p = none → H1 dx = none → dx ≠ p → sp (.ref p :: vs) (upd (upd H1 dx (.own p)) p (.ins (c.cls x) dx [])) (fun v H2 => v = .non ∧ Q (.ref p) H2) E0) := by
    congr 1; funext vs H1; exact propext ⟨fun h => h CF.ok, fun h _ => h⟩
  rw [← e]; exact q
theorem z_meth {pl : Sem Bool} (he : PE X o ta) (CF : ClsF X.K X.mg c x gs) (M : Mth X.prog X.w X.K X.mg X.base k (c.cls x) m ps sp) (hr : Room k X.A) (ha : PA X (e :: es) t)
    (hst : starEach (e :: es) X.env = (false, eval e X.env) :: starEach es X.env := by rfl) (hpl : (backTo pos (starEach es X.env)).any (·.1) = false := by rfl)
    (ht : eval (.Call (.Attribute o m apos) (e :: es) [] pos) X.env = (do
      let ov ← eval o X.env
      standAt apos.atName
      let (f, first) ← holding [ov] (getMethod ov m pl)
      callWith pos f first (backTo pos (starEach (e :: es) X.env)) (backToKw pos (keywordEach [] X.env))) := by rfl) : PE X (.Call (.Attribute o m apos) (e :: es) [] pos) (tMt c x m sp ta t) := by
  obtain ⟨f, fd, hM, hb, F⟩ := M.ex
  have h := pe_meth (E := E0) (dvs := []) he CF.ok.cl hM F hr hb .nil pass0 ha hst hpl ht
  have e : tMeth (c.cls x) m sp [] E0 ta t = tMt c x m sp ta t := by
    funext σ H Q; simp only [tMeth, tMt, List.append_nil]
  rw [← e]; exact h
theorem z_meth0 {pl : Sem Bool} (he : PE X o ta) (CF : ClsF X.K X.mg c x gs) (M : Mth X.prog X.w X.K X.mg X.base k (c.cls x) m ps sp) (hr : Room k X.A)
    (ht : eval (.Call (.Attribute o m apos) [] [] pos) X.env = (do
      let ov ← eval o X.env
      standAt apos.atName
      let (f, first) ← holding [ov] (getMethod ov m pl)
      callWith pos f first (backTo pos (starEach [] X.env)) (backToKw pos (keywordEach [] X.env))) := by rfl) : PE X (.Call (.Attribute o m apos) [] [] pos) (tMt c x m sp ta tNil) := by
  obtain ⟨f, fd, hM, hb, F⟩ := M.ex
  have h := pe_meth0 (E := E0) (dvs := []) he CF.ok.cl hM F hr hb .nil pass0 ht
  refine ⟨fun pins s σ H Q I q => h.run pins s σ H Q I ?_⟩
  first
    | exact q
    | (simp only [List.append_nil] at *; exact q)
theorem z_prop (he : PE X e ta) (CF : ClsF X.K X.mg c x gs) (M : Prp X.prog X.w X.K X.mg X.base k (c.cls x) m ps sp) (hr : Room (k + 1) X.A) (hab : attributeBase e m X.env (eval e X.env) = eval e X.env) : PE X (.Attribute e m pos) (tPr c x sp ta) := by
  obtain ⟨q, f, fd, hM, hb, F⟩ := M.ex
  exact pe_prop (E := E0) (dvs := []) he CF.ok.cl hM F hr hb .nil pass0 hab
theorem z_cls (CF : ClsF X.K X.mg c x gs) (I' : IsF X.K c x) (hg : Gl X x) (hdb : (x == ("__debug__" : Str)) = false := by decide) : PE X (.Name x pos) (tCls X.K c x) :=
  ⟨fun _ _ _ H _ I h => ld_glob I hg CF.mg ⟨.ref (c.cls x), H, I, rfl, h I'⟩ hdb⟩
theorem op_eqO (CF : ClsF X.K X.mg c x gs) (M : Mth X.prog X.w X.K X.mg X.base k (c.cls x) "__eq__" ps sp) (hr : Room k X.A) : OpR X (compareOp .Eq) (uEqO c x sp) := by
  intro pins s σ H u v y z Q I rx ry hq
  obtain ⟨f, fd, hM, hb, F⟩ := M.ex
  obtain ⟨a, b, dx, dy, fs, hs, rfl, rfl, ha, hb', q⟩ := hq
  cases rx
  cases ry
  obtain ⟨mA, J, _⟩ := ins_get I.hok ha
  obtain ⟨mB, J', _⟩ := ins_get I.hok hb'
  obtain ⟨od, J, _⟩ := J.look
  obtain ⟨od', J', _⟩ := J'.look
  obtain ⟨m, hF⟩ := I.fr
  show wpAny (model X.prog X.w) X.A (richCompare .Eq (.ref a) (.ref b)) (EP X pins σ Q) X.xe s
  refine PySem.W.cmp_K (op := .Eq) (tb := .ref (c.cls x)) hr.units0 hF I.ok.mod.kin J J'.type (by simp [PySem.W.notFirst]) hM.at_ hM.fn ?_
  have r2 : Vals [V.ref a, V.ref b] [Value.ref a, Value.ref b] := .cons rfl (.cons rfl .nil)
  refine thn (run_fn (Q := fun z H' => ∃ k, z = .bl k ∧ Q (.bl k) H') (E := E0) (dvs := []) F hr hb .nil pass0 I r2 (by simpa using q)) fun w s' hw => ?_
  obtain ⟨zv, H', I', rz, hq⟩ := hw
  obtain ⟨kk, ez, q'⟩ := hq
  subst ez
  have rz2 : w = Value.bool kk := rz
  subst rz2
  exact ⟨.bl kk, H', I', rfl, q'⟩
end
/-- == of an instance and a tuple, by the instance's own __eq__ -/
def uEqT (K : PySem.W.Frag) (c : CEnv) (x : Str) (sp : Sp) : R2 := fun u v H Q => ∃ a b dx fs xs, u = .ref a ∧ v = .ref b ∧ H a = some (.ins (c.cls x) dx fs) ∧ SqT K H b xs ∧ sp [.ref a, .ref b] H (fun z H' => ∃ k, z = .bl k ∧ Q (.bl k) H') E0
section
variable {X : Cx} {c : CEnv} {k : Nat} {x : Str} {ps gs : List Str} {sp : Sp}
theorem op_eqT (CF : ClsF X.K X.mg c x gs) (IF : IsF X.K c x) (M : Mth X.prog X.w X.K X.mg X.base k (c.cls x) "__eq__" ps sp) (hr : Room k X.A) : OpR X (compareOp .Eq) (uEqT X.K c x sp) := by
  intro pins s σ H u v y z Q I rx ry hq
  obtain ⟨f, fd, hM, hb, F⟩ := M.ex
  obtain ⟨a, b, dx, fs, xs, rfl, rfl, ha, hb', q⟩ := hq
  cases rx
  cases ry
  obtain ⟨mA, J, _⟩ := ins_get I.hok ha
  obtain ⟨od, J, _⟩ := J.look
  obtain ⟨its, r, hT, _⟩ := I.tuple hb'
  have hT : s.heap.IsTuple b its.toArray := hT
  obtain ⟨oT, hoT, hcT, _⟩ := id hT
  have LT : PySem.W.Looks (model X.prog X.w) s.heap (typeOf (.ref b)) (.type "tuple") := fun A Q E s k q => wpAny_typeOf_ref (k _ _ hoT) (by rw [hcT]; exact q)
  obtain ⟨m, hF⟩ := I.fr
  show wpAny (model X.prog X.w) X.A (richCompare .Eq (.ref a) (.ref b)) (EP X pins σ Q) X.xe s
  have hn : PySem.W.notFirst X.K (c.cls x) (.type "tuple") = true := by
    unfold PySem.W.notFirst
    rw [IF.si "tuple" (by decide)]
    simp
  refine PySem.W.cmp_K (op := .Eq) (tb := .type "tuple") hr.units0 hF I.ok.mod.kin J LT hn hM.at_ hM.fn ?_
  have r2 : Vals [V.ref a, V.ref b] [Value.ref a, Value.ref b] := .cons rfl (.cons rfl .nil)
  refine thn (run_fn (Q := fun z H' => ∃ k, z = .bl k ∧ Q (.bl k) H') (E := E0) (dvs := []) F hr hb .nil pass0 I r2 (by simpa using q)) fun w s' hw => ?_
  obtain ⟨zv, H', I', rz, hq⟩ := hw
  obtain ⟨kk, ez, q'⟩ := hq
  subst ez
  have rz2 : w = Value.bool kk := rz
  subst rz2
  exact ⟨.bl kk, H', I', rfl, q'⟩
end
section
variable {K : PySem.W.Frag} {c : CEnv} {x f : Str} {gs : List Str} {H : Hp} {Q : VK} {p dx : Addr} {fs : List (Str × V)} {v : V} {σ : L2.St} {t : TA} {ta : TE} {sp : Sp} {m : Str}
theorem z_fld (ok : ClsOk K c x gs) (h : H p = some (.ins (c.cls x) dx fs)) (l : fs.lookup f = some v) (n : gs.contains f = true) (k : Q v H) : zFld K f (.ref p) H Q := ⟨p, _, dx, fs, v, rfl, h, ok.cl, ok.na f n, l, k⟩
theorem z_set {N : Hp → Prop} {y : V} (ok : ClsOk K c x gs) (h : H p = some (.ins (c.cls x) dx fs)) (n : gs.contains f = true) (l : fs.length < 1000) (k : N (upd H p (.ins (c.cls x) dx (putF f y fs)))) : zSet K f y (.ref p) H N := ⟨p, _, dx, fs, rfl, h, ok.cl, ok.na f n, l, k⟩
theorem z_mk (k : t σ H fun vs H1 => ClsOk K c x gs → ∀ p dx, H1 p = none → H1 dx = none → dx ≠ p → sp (.ref p :: vs) (upd (upd H1 dx (.own p)) p (.ins (c.cls x) dx [])) (fun v H2 => v = .non ∧ Q (.ref p) H2) E0) : tMk K c x gs sp t σ H Q := k
theorem z_mt (k : ta σ H fun v H1 => ∃ a dx fs, v = .ref a ∧ H1 a = some (.ins (c.cls x) dx fs) ∧ fs.lookup m = none ∧ t σ H1 fun vs H2 => sp (v :: vs) H2 Q E0) : tMt c x m sp ta t σ H Q := k
theorem z_pr (k : ta σ H fun v H1 => ∃ a dx fs, v = .ref a ∧ H1 a = some (.ins (c.cls x) dx fs) ∧ sp [.ref a] H1 Q E0) : tPr c x sp ta σ H Q := k
theorem z_clsv (k : IsF K c x → Q (.ref (c.cls x)) H) : tCls K c x σ H Q := k
theorem z_isIns {y : Str} (i : IsF K c y) (ok : ClsOk K c x gs) (h : H p = some (.ins (c.cls x) dx fs)) (k : Q (.bl (SUB x y)) H) : uIsi K [.ref p, .ref (c.cls y)] H Q :=
  z_isi (ClsV.own _) (TyX.base (TyOf.ins h ok.cl ok.ha ok.hn ok.htk ok.hm)) (ok.sub y i.has) k
end
theorem na_of {P : Str → Prop} {gs : List Str} (h : ∀ f ∈ gs, P f) : ∀ f, gs.contains f = true → P f := fun f hf => h f (by simpa using hf)
theorem ki_of {K : PySem.W.Frag} {C : Addr} (h : ∀ n ∈ ["int", "bool", "str", "NoneType", "tuple", "list", "dict"], PySem.W.kitOne K (.type n) (.ref C) = some false) : ∀ n, ["int", "bool", "str", "NoneType", "tuple", "list", "dict"].contains n = true → PySem.W.kitOne K (.type n) (.ref C) = some false := fun n hn => h n (by simpa using hn)
theorem si_of {K : PySem.W.Frag} {C : Addr} (h : ∀ n ∈ ["int", "bool", "str", "NoneType", "tuple", "list", "dict"], PySem.W.subIn K (.type n) (.ref C) = some false) : ∀ n, ["int", "bool", "str", "NoneType", "tuple", "list", "dict"].contains n = true → PySem.W.subIn K (.type n) (.ref C) = some false := fun n hn => h n (by simpa using hn)
theorem kit_own {K : PySem.W.Frag} {t : Value} {C : Addr} {b : Bool} (ic : PySem.W.isClsIn K C = true) (ty : PySem.W.typeIn K (.ref C) = some (.type "type")) (ss : PySem.W.subIn K (.ref C) (.ref C) = some true) (sb : PySem.W.subIn K t (.ref C) = some b) : PySem.W.kitOne K t (.ref C) = some b := by
  unfold PySem.W.kitOne
  split
  · rename_i h
    have e : t = .ref C := eq_of_beq h
    subst e
    rw [ss] at sb; exact sb
  · unfold PySem.W.kitCls
    have h1 : (PySem.W.clsIn K C).isSome = true := ic
    dsimp only
    rw [h1, ty]
    exact sb

local macro_rules | `(tactic| walk_at "z") => `(tactic| with_reducible first
  | ((show zFld _ _ _ _ _); refine z_fld (by assumption) (by walk_at "lk") (by with_unfolding_all rfl) (by with_unfolding_all rfl) ?_)
  | ((show zSet _ _ _ _ _ _); refine z_set (by assumption) (by walk_at "lk") (by with_unfolding_all rfl) (by with_unfolding_all exact of_decide_eq_true rfl) ?_)
  | (refine z_mk ?_) | (refine z_mt ?_) | (refine z_pr ?_) | (refine z_clsv ?_; intro _))

/-! ### lists place by place -/
inductive All2 {α β : Type} (R : α → β → Prop) : List α → List β → Prop
  | nil : All2 R [] []
  | cons {a : α} {b : β} {as : List α} {bs : List β} (h : R a b) (t : All2 R as bs) : All2 R (a :: as) (b :: bs)
section
variable {α β : Type} {R S : α → β → Prop} {as : List α} {bs : List β} {a : α} {b : β}
theorem All2.imp (f : ∀ a b, R a b → S a b) (h : All2 R as bs) : All2 S as bs := by
  induction h with
  | nil => exact .nil
  | cons h t ih => exact .cons (f _ _ h) ih
theorem All2.app (h : All2 R as bs) (e : R a b) : All2 R (as ++ [a]) (bs ++ [b]) := by
  induction h with
  | nil => exact .cons e .nil
  | cons h t ih => exact .cons h ih
theorem All2.len (h : All2 R as bs) : as.length = bs.length := by
  induction h with
  | nil => rfl
  | cons h t ih => simp [ih]
theorem All2.get (h : All2 R as bs) : ∀ {i : Nat} (hi : i < as.length) (hj : i < bs.length), R as[i] bs[i] := by
  induction h with
  | nil => intro i hi; cases hi
  | cons h t ih => intro i hi hj; cases i with
    | zero => exact h
    | succ i => exact ih (by simpa using hi) (by simpa using hj)
theorem All2.of {n : Nat} (ha : as.length = n) (hb : bs.length = n) (f : ∀ i (hi : i < as.length) (hj : i < bs.length), R as[i] bs[i]) : All2 R as bs := by
  induction as generalizing bs n with
  | nil => cases bs with
    | nil => exact .nil
    | cons b t => simp at ha hb; omega
  | cons a t ih => cases bs with
    | nil => simp at ha hb; omega
    | cons b u => exact .cons (f 0 (by simp) (by simp)) (ih (n := n - 1) (by simp at ha; omega) (by simp at hb; omega) fun i hi hj => f (i + 1) (by simpa using hi) (by simpa using hj))
end
theorem at_ref {ps : List Addr} {i : Int} (h0 : 0 ≤ i) (h1 : i < ps.length) : atI (ps.map V.ref) i = some (.ref (ps.getD i.toNat 0)) := by
  unfold atI
  rw [ix_at h0 (by simpa using h1)]
  have : i.toNat < ps.length := by omega
  simp [List.getD, this]
theorem map_ref {ps : List Addr} {i : Nat} {x : V} (h : (ps.map V.ref)[i]? = some x) : i < ps.length ∧ x = .ref (ps.getD i 0) := by
  rw [List.getElem?_map] at h
  cases e : ps[i]? with
  | none => rw [e] at h; cases h
  | some y =>
    rw [e] at h
    obtain ⟨l, _⟩ := List.getElem?_eq_some_iff.mp e
    exact ⟨l, by rw [List.getD_eq_getElem?_getD, e]; exact (Option.some.inj h).symm⟩
theorem ref_app {ps : List Addr} {q : Addr} : ps.map V.ref ++ [V.ref q] = (ps ++ [q]).map V.ref := by simp
section
variable {α β : Type} {R : α → β → Prop} {as : List α} {bs : List β} {a : α} {b : β}
theorem All2.atD (h : All2 R as bs) (d : α) (e : β) {i : Nat} (hi : i < bs.length) : R (as.getD i d) (bs.getD i e) := by
  have hj : i < as.length := by rw [All2.len h]; exact hi
  have q := All2.get h hj hi
  rw [List.getD_eq_getElem?_getD, List.getD_eq_getElem?_getD, List.getElem?_eq_getElem hi, List.getElem?_eq_getElem hj]
  exact q
theorem All2.take (h : All2 R as bs) : ∀ k : Nat, All2 R (as.take k) (bs.take k) := by
  induction h with
  | nil => intro k; rw [List.take_nil, List.take_nil]; exact .nil
  | cons h t ih => intro k; cases k with
    | zero => exact .nil
    | succ k => exact .cons h (ih k)
theorem All2.drop (h : All2 R as bs) : ∀ k : Nat, All2 R (as.drop k) (bs.drop k) := by
  induction h with
  | nil => intro k; rw [List.drop_nil, List.drop_nil]; exact .nil
  | cons h t ih => intro k; cases k with
    | zero => exact .cons h t
    | succ k => exact ih k
theorem All2.mem (h : All2 R as bs) (ha : a ∈ as) : ∃ b ∈ bs, R a b := by
  induction h with
  | nil => cases ha
  | cons h t ih =>
    rcases List.mem_cons.mp ha with rfl | ha
    · exact ⟨_, List.mem_cons_self .., h⟩
    · obtain ⟨b, hb, r⟩ := ih ha; exact ⟨b, List.mem_cons_of_mem _ hb, r⟩
end
theorem Same.put {H H' : Hp} {p : Addr} {o : HO} (h : H p = none) (x : Same H H') : Same H (upd H' p o) := fun a u e => lk_ne (ne_of_none e h) (x a u e)
theorem fresh_same {H H' : Hp} {p : Addr} (s : Same H H') (h : H' p = none) : H p = none := by
  cases e : H p with
  | none => rfl
  | some o => rw [s _ _ e] at h; cases h
theorem take_dS {α : Type} {l : List α} {i : Nat} (d : α) (h : i < l.length) : l.take (i + 1) = l.take i ++ [l.getD i d] := by
  rw [List.take_succ, List.getD_eq_getElem?_getD, List.getElem?_eq_getElem h]; rfl
theorem getD_mem' {α : Type} {l : List α} {i : Nat} (d : α) (h : i < l.length) : l.getD i d ∈ l := by
  rw [List.getD_eq_getElem?_getD, List.getElem?_eq_getElem h]; exact List.getElem_mem h

/-! what may be raised; keywords -/
/-- no way out -/
abbrev W0 : WX := fun _ _ _ _ => False
theorem passF {X : Cx} : ∀ σ, PassesAt (L2.CX X.prog X.w) X σ (WE W0 σ) := fun σ => passAt takes0 σ
theorem passW {X : Cx} {W : WX} (tk : Takes X W) : ∀ σ, PassesAt (L2.CX X.prog X.w) X σ (WE W σ) := fun σ => passAt tk σ
theorem pass00 {X : Cx} : ∀ σ, PassesAt CX0 X σ (WE W0 σ) := fun σ pins H s e s' I c => pass0 pins σ H s e s' I c
/-- a body that may raise keeps its promise -/
def WdX (T : WX → TS) (N : List Str) (n : Nat) (sp : Sp) : Prop := ∀ (vs : List V) (H : Hp) (Q : VK) (E : XK), sp vs H Q E → vs.length = n ∧ T (fun cls d _ H => E cls d H) { nx := fun _ H' => Q .non H', rt := Q } (start N vs) H
structure DfnX (P : Program) (w : World) (K : PySem.W.Frag) (mg : Str → Option Value) (base : Heap) (k : Nat) (x : Str) (ps : List Str) (sp : Sp) : Prop where
  ex : ∃ (f : Addr) (fd : FuncData), mg x = some (.ref f) ∧ PySem.W.keepIn K (.ref f) = true ∧ Binds K fd ps [] ∧ FnOk P w K mg base (L2.CX P w) k f fd ps sp
structure MkrX (P : Program) (w : World) (K : PySem.W.Frag) (mg : Str → Option Value) (base : Heap) (k : Nat) (C : Addr) (ps : List Str) (sp : Sp) : Prop where
  ex : ∃ (f : Addr) (fd : FuncData), Mk K C f ∧ Binds K fd ps [] ∧ FnOk P w K mg base (L2.CX P w) k f fd ps sp
structure MthX (P : Program) (w : World) (K : PySem.W.Frag) (mg : Str → Option Value) (base : Heap) (k : Nat) (C : Addr) (m : Str) (ps : List Str) (sp : Sp) : Prop where
  ex : ∃ (f : Addr) (fd : FuncData), Meth K C m f ∧ Binds K fd ps [] ∧ FnOk P w K mg base (L2.CX P w) k f fd ps sp
/-- a constant: a value, or the empty tuple -/
inductive Cst where
  | v (x : V)
  | e
def Cst.Is (K : PySem.W.Frag) : Cst → V → Prop
  | .v x, u => u = x
  | .e, u => ∃ T, u = .ref T ∧ ∀ H, SqT K H T []
/-- keyword-only values by places: true: given, false: lacking -/
def gSel (sel : List (Bool × Nat)) {α : Type} (vs mz zs : List α) : List α := vs ++ sel.filterMap fun z => if z.1 then zs[z.2]? else mz[z.2]?
theorem gSel_rel (sel : List (Bool × Nat)) {vs mz zs : List V} {us mv ws : List Value} (h1 : Vals vs us) (h2 : Vals mz mv) (h3 : Vals zs ws) : Vals (gSel sel vs mz zs) (gSel sel us mv ws) := by
  unfold gSel
  refine h1.append ?_
  have one : ∀ {xs : List V} {as : List Value} (i : Nat), Vals xs as → (xs[i]? = none ∧ as[i]? = none) ∨ ∃ x a, xs[i]? = some x ∧ as[i]? = some a ∧ RelV x a := by
    intro xs as i r
    cases e : xs[i]? with
    | none => exact .inl ⟨rfl, Vals.none_of r e⟩
    | some x => obtain ⟨a, ea, ra⟩ := Vals.get r e; exact .inr ⟨x, a, rfl, ea, ra⟩
  induction sel with
  | nil => exact .nil
  | cons z t ih =>
    obtain ⟨b, i⟩ := z
    cases b with
    | true =>
      rcases one i h3 with ⟨e1, e2⟩ | ⟨x, a, e1, e2, r⟩
      · simp only [List.filterMap_cons, if_pos, e1, e2]; exact ih
      · simp only [List.filterMap_cons, if_pos, e1, e2]; exact .cons r ih
    | false =>
      rcases one i h2 with ⟨e1, e2⟩ | ⟨x, a, e1, e2, r⟩
      · simp only [List.filterMap_cons, Bool.false_eq_true, if_false, e1, e2]; exact ih
      · simp only [List.filterMap_cons, Bool.false_eq_true, if_false, e1, e2]; exact .cons r ih
/-- making by n values and the keywords ks; ms: what is lacking -/
structure MkrK (CX : CXT) (P : Program) (w : World) (K : PySem.W.Frag) (mg : Str → Option Value) (base : Heap) (k : Nat) (C : Addr) (ps : List Str) (sp : Sp) (n : Nat) (ks : List Str) (ms : List Cst) (sel : List (Bool × Nat)) : Prop where
  ex : ∃ (f : Addr) (fd : FuncData) (g : List Value → List Value → List Value) (ds : List V), Mk K C f ∧ All2 (Cst.Is K) ms ds ∧ KBn K fd ps (n + 1) ks g (fun vs zs => gSel sel vs ds zs) ∧ FnOk P w K mg base CX k f fd ps sp
def tMkX (K : PySem.W.Frag) (c : CEnv) (x : Str) (gs : List Str) (sp : Sp) (W : WX) (t : TA) : TE := fun σ H Q => t σ H fun vs H1 => ClsOk K c x gs → ∀ p dx, H1 p = none → H1 dx = none → dx ≠ p →
  sp (.ref p :: vs) (upd (upd H1 dx (.own p)) p (.ins (c.cls x) dx [])) (fun v H2 => v = .non ∧ Q (.ref p) H2) (WE W σ)
def tMkK (K : PySem.W.Frag) (c : CEnv) (x : Str) (gs : List Str) (n m : Nat) (ms : List Cst) (sel : List (Bool × Nat)) (sp : Sp) (W : WX) (t tk : TA) : TE := fun σ H Q => t σ H fun vs H1 => tk σ H1 fun zs H2 => vs.length = n ∧ zs.length = m ∧ (ClsOk K c x gs → ∀ ds, All2 (Cst.Is K) ms ds → ∀ p dx, H2 p = none → H2 dx = none → dx ≠ p →
  sp (gSel sel (.ref p :: vs) ds zs) (upd (upd H2 dx (.own p)) p (.ins (c.cls x) dx [])) (fun v H3 => v = .non ∧ Q (.ref p) H3) (WE W σ))
def tMtX (c : CEnv) (x m : Str) (sp : Sp) (W : WX) (ta : TE) (t : TA) : TE := fun σ H Q => ta σ H fun v H1 => ∃ a dx fs, v = .ref a ∧ H1 a = some (.ins (c.cls x) dx fs) ∧ fs.lookup m = none ∧ t σ H1 fun vs H2 => sp (v :: vs) H2 Q (WE W σ)
/-! own exceptions -/
structure ExcF (K : PySem.W.Frag) (mg : Str → Option Value) (c : CEnv) (x : Str) : Prop where
  q : PySem.W.excIn K (c.cls x) [.type "ValueError", .type "Exception", .type "BaseException", .type "object"] "ValueError.__new__" = true
  mg : mg x = some (.ref (c.cls x))
  kp : PySem.W.keepIn K (.ref (c.cls x)) = true
  sb : PySem.W.subIn K (.ref (c.cls x)) (.type "BaseException") = some true
  ty : PySem.W.typeIn K (.ref (c.cls x)) = some (.type "type")
def sRaise (c : CEnv) (x : Str) (W : WX) : TS := fun _ σ H => W (.ref (c.cls x)) none σ H
def sTry (K : PySem.W.Frag) (c : CEnv) (x : Str) (ys : List Str) (tb : WX → TS) (ts : TS) (Wo : WX) : TS := fun D σ H =>
  (∀ y ∈ ys, PySem.W.exmOne K (.ref (c.cls y)) (.ref (c.cls x)) = some (SUB y x)) → tb (wOnly K (.ref (c.cls x)) (fun _ _ _ => ts) Wo D) D σ H
section
variable {X : Cx} {c : CEnv} {k n : Nat} {x m : Str} {ps gs : List Str} {sp : Sp} {W : WX} {p pos apos : Pos} {e o : Expr} {es : List Expr} {t tk : TA} {ta : TE}
theorem z_callX (D : DfnX X.prog X.w X.K X.mg X.base k x ps sp) (hx : ∀ σ, PassesAt (L2.CX X.prog X.w) X σ (WE W σ)) (hr : Room k X.A) (hg : Gl X x) (ha : PA X (e :: es) t) (hdb : (x == ("__debug__" : Str)) = false := by decide)
    (he : starEach (e :: es) X.env = (false, eval e X.env) :: starEach es X.env := by rfl) (hpl : (backTo pos (starEach es X.env)).any (·.1) = false := by rfl) : PE X (.Call (.Name x p) (e :: es) [] pos) (tCallS sp (WE W) t) := by
  obtain ⟨f, fd, hm, hk, hb, F⟩ := D.ex
  exact pe_callS F hr hg hm hk hb hx ha hdb he hpl
/-- a made instance: what __init__ raises is wished for at the slots as they stand -/
theorem run_mkS {CX : CXT} {C f : Addr} {fd : FuncData} {ks : List Str} {g : List Value → List Value → List Value} {gV : List V → List V → List V} {E : XK} {pins : List (Addr × Obj)} {σ : L2.St} {H : Hp} {s : Shared} {Q : VK} {us ws : List Value} {vs zs : List V}
    (M : Mk X.K C f) (F : FnOk X.prog X.w X.K X.mg X.base CX k f fd ps sp) (hr : Room (k + 1) X.A) (bind : ∀ s : Shared, X.K.In s.heap → BindsTo s fd ⟨Value.ref (s.heap.objs.size - 1) :: us, ks.zip ws⟩ (ps.zip (g (Value.ref (s.heap.objs.size - 1) :: us) ws)))
    (rel : ∀ q, Vals (gV (V.ref q :: vs) zs) (g (Value.ref q :: us) ws)) (hx : PassesAt CX X σ E) (I : Inv X pins σ H s)
    (h : ∀ q dx, H q = none → H dx = none → dx ≠ q → sp (gV (.ref q :: vs) zs) (upd (upd H dx (.own q)) q (.ins C dx [])) (fun v H2 => v = .non ∧ Q (.ref q) H2) E)
    (bind2 : ∀ (s2 : Shared) (q : Addr), X.K.In s2.heap → BindsTo s2 fd ⟨Value.ref q :: us, ks.zip ws⟩ (ps.zip (g (Value.ref q :: us) ws))) :
    wpAny (model X.prog X.w) X.A (call (.ref C) us (ks.zip ws)) (EP X pins σ Q) X.xe s := by
  have want := h (s.heap.objs.size + 1) s.heap.objs.size (I.hok.fresh (Nat.le_succ _)) (I.hok.fresh (Nat.le_refl _)) (Nat.ne_of_lt (Nat.lt_succ_self _))
  have J := Inv.made (C := C) I
  have go := F.run _ X.stack _ _ ⟨Value.ref (s.heap.objs.size + 1) :: us, ks.zip ws⟩ (g (Value.ref (s.heap.objs.size + 1) :: us) ws) _ _ E (hr.make C us (ks.zip ws)) (J.env0.make C us (ks.zip ws)) (bind2 _ _ J.kIn) (rel _) want
  refine wpAny_call (make_map (f := f) I.kIn M.makes M.init (beq_iff_eq.mp M.fn) (codeAny_mono go fun r s' hr' => ?_))
  match r, hr' with
  | .error e, hr' => exact hx pins _ _ e s' J hr'
  | .ok (.ret u), hr' =>
    obtain ⟨v, H', I3, rv, ev, q3⟩ := J.after hr'
    subst ev
    exact ⟨rv, ⟨V.ref (s.heap.objs.size + 1), H', I3, rfl, q3⟩⟩
  | .ok .next, hr' => exact hr'.elim
  | .ok .brk, hr' => exact hr'.elim
  | .ok .cont, hr' => exact hr'.elim
theorem z_makeX (CF : ClsF X.K X.mg c x gs) (M : MkrX X.prog X.w X.K X.mg X.base k (c.cls x) ps sp) (hx : ∀ σ, PassesAt (L2.CX X.prog X.w) X σ (WE W σ)) (hr : Room (k + 1) X.A) (hg : Gl X x) (ha : PA X (e :: es) t) (hdb : (x == ("__debug__" : Str)) = false := by decide)
    (he : starEach (e :: es) X.env = (false, eval e X.env) :: starEach es X.env := by rfl) (hpl : (backTo pos (starEach es X.env)).any (·.1) = false := by rfl) : PE X (.Call (.Name x p) (e :: es) [] pos) (tMkX X.K c x gs sp W t) := by
  obtain ⟨f, fd, hM, hb, F⟩ := M.ex
  refine ⟨fun pins s σ H Q I h => ?_⟩
  refine wpAny_Call_Name_kw (ld_glob I hg CF.mg ?_ hdb)
  refine PySem.W.callWith_K (h₀ := X.base) I.ok.mod.kin hM.kp (thn (ha.run pos pins s σ H _ I h) fun us s1 ⟨vs, H1, I1, r, q⟩ => ⟨I1.kIn, ?_⟩) he hpl
  have hl : ∀ a : Addr, (Value.ref a :: us).length = ps.length := fun a => by
    have w := F.len _ _ _ _ (q CF.ok (s1.heap.objs.size + 1) s1.heap.objs.size (I1.hok.fresh (Nat.le_succ _)) (I1.hok.fresh (Nat.le_refl _)) (Nat.ne_of_lt (Nat.lt_succ_self _)))
    have l := r.length
    simp only [List.length_cons] at w ⊢
    omega
  have b : ∀ (s2 : Shared) (a : Addr), X.K.In s2.heap → BindsTo s2 fd ⟨Value.ref a :: us, ([] : List Str).zip ([] : List Value)⟩ (ps.zip (Value.ref a :: us)) := fun s2 a ki => by
    have z := hb s2 (Value.ref a :: us) ki (by rw [List.append_nil]; exact hl a)
    rw [List.append_nil] at z
    exact z
  exact run_mkS (ks := []) (ws := []) (zs := []) (g := fun us _ => us) (gV := fun vs _ => vs) hM F hr (fun s2 ki => b s2 _ ki) (fun _ => .cons rfl r) (hx σ) I1 (q CF.ok) b
theorem z_makeK {CX : CXT} {ks : List Str} {kws : List Keyword} {ms : List Cst} {sel : List (Bool × Nat)} {nk : Nat} (CF : ClsF X.K X.mg c x gs) (M : MkrK CX X.prog X.w X.K X.mg X.base k (c.cls x) ps sp n ks ms sel) (hx : ∀ σ, PassesAt CX X σ (WE W σ)) (hr : Room (k + 1) X.A) (hg : Gl X x) (ha : PA X (e :: es) t) (hkw : PK X kws tk)
    (hnk : ks.length = nk := by rfl) (hall : (backToKw pos (keywordEach kws X.env)).all (·.1.isSome) = true := by rfl) (hks : (backToKw pos (keywordEach kws X.env)).filterMap (·.1) = ks := by rfl) (hdb : (x == ("__debug__" : Str)) = false := by decide)
    (he : starEach (e :: es) X.env = (false, eval e X.env) :: starEach es X.env := by rfl) (hpl : ((backTo pos (starEach (e :: es) X.env)).any (·.1) || (backToKw pos (keywordEach kws X.env)).any (·.1.isNone)) = false := by rfl) :
    PE X (.Call (.Name x p) (e :: es) kws pos) (tMkK X.K c x gs n nk ms sel sp W t tk) := by
  subst hnk
  obtain ⟨f, fd, g, ds, hM, hds, hb, F⟩ := M.ex
  refine ⟨fun pins s σ H Q I h => ?_⟩
  refine wpAny_Call_Name_kw (ld_glob I hg CF.mg ?_ hdb)
  refine PySem.W.callWith_KW (h₀ := X.base) I.ok.mod.kin hM.kp hall (thn (ha.run pos pins s σ H _ I h) fun us s1 ⟨vs, H1, I1, r, q⟩ => ?_) hpl he
  refine thn (hkw.run pos pins s1 σ H1 _ I1 q) fun ws s2 ⟨zs, H2, I2, rz, l1, l2, q2⟩ => ⟨I2.kIn, ?_⟩
  rw [hks]
  have n1 : ∀ a : Addr, (Value.ref a :: us).length = n + 1 := fun a => by rw [List.length_cons, ← r.length, l1]
  exact run_mkS (g := g) (gV := fun vs zs => gSel sel vs ds zs) hM F hr (fun s3 ki => hb.to s3 _ ws ki (n1 _) (rz.length.symm.trans l2)) (fun a => hb.rel (.cons rfl r) rz) (hx σ) I2 (q2 CF.ok ds hds) (fun s3 a ki => hb.to s3 _ ws ki (n1 _) (rz.length.symm.trans l2))
theorem z_raise {j : Nat} {p2 pos' : Pos} (hc : X.calm = true) (E : ExcF X.K X.mg c x) (tk : Takes X W) (hg : Gl X x) (hdb : (x == ("__debug__" : Str)) = false := by decide) : PS X (.Raise (some (.Call (.Name x p) [.Constant (.str m) j p2] [] pos)) none pos') (sRaise c x W) :=
  ps_raise hc tk (pmk_own F.excBase_ValueError E.q E.mg E.kp (raises_own E.sb E.ty) hg hdb)
theorem z_try {x : Str} {ys : List Str} {body suite : List Stmt} {b₀ : Stmt} {np pos pos' : Pos} {tb : WX → TS} {ts : TS} {Wo : WX} (hs : X.stack = X.env :: X.outer) (hf : X.env.frame = some X.env.locals) (hg : Gl X x) (hm : X.mg x = some (.ref (c.cls x))) (he : ∀ y ∈ ys, PySem.W.exmOne X.K (.ref (c.cls y)) (.ref (c.cls x)) = some (SUB y x)) (tk : Takes X Wo)
    (hb : ∀ (W : WX) (pn : List (Addr × Obj)) (xe : Value → Shared → Prop), Takes (X.tr pn xe) W → PassesOwn (model X.prog X.w) X.A X.env xe → PSs (X.tr pn xe) body (tb W))
    (hsu : ∀ (a : Addr) (oe : Obj) (cls : Value) (d : Option Addr) (pn : List (Addr × Obj)), Zc cls d oe → (∃ vs, oe.data = .fields vs) → PSs (X.suite a ((a, oe) :: pn)) (b₀ :: suite) ts) (hdb : (x == ("__debug__" : Str)) = false := by decide) :
    PS X (.Try body [.ExceptHandler (some (.Name x np)) none (b₀ :: suite) pos'] [] [] pos) (sTry X.K c x ys tb ts Wo) :=
  ⟨fun pins s σ H D I h => (ps_try_only (ts := fun _ _ _ => ts) hs hf ⟨hg, hdb, .inl hm⟩ tk hb hsu).run pins s σ H D I (h he)⟩
end
section
variable {K : PySem.W.Frag} {c : CEnv} {x y m : Str} {gs : List Str} {H : Hp} {Q : VK} {σ : L2.St} {t tk : TA} {ta : TE} {sp : Sp} {W : WX} {D : Ends}
theorem z_calS (k : t σ H fun vs H1 => sp vs H1 Q (WE W σ)) : tCallS sp (WE W) t σ H Q := k
theorem z_mkX (k : t σ H fun vs H1 => ClsOk K c x gs → ∀ p dx, H1 p = none → H1 dx = none → dx ≠ p → sp (.ref p :: vs) (upd (upd H1 dx (.own p)) p (.ins (c.cls x) dx [])) (fun v H2 => v = .non ∧ Q (.ref p) H2) (WE W σ)) : tMkX K c x gs sp W t σ H Q := k
theorem z_mkK {n nk : Nat} {ms : List Cst} {sel : List (Bool × Nat)} (k : t σ H fun vs H1 => tk σ H1 fun zs H2 => vs.length = n ∧ zs.length = nk ∧ (ClsOk K c x gs → ∀ ds, All2 (Cst.Is K) ms ds → ∀ p dx, H2 p = none → H2 dx = none → dx ≠ p →
  sp (gSel sel (.ref p :: vs) ds zs) (upd (upd H2 dx (.own p)) p (.ins (c.cls x) dx [])) (fun v H3 => v = .non ∧ Q (.ref p) H3) (WE W σ))) : tMkK K c x gs n nk ms sel sp W t tk σ H Q := k
theorem z_mtX (k : ta σ H fun v H1 => ∃ a dx fs, v = .ref a ∧ H1 a = some (.ins (c.cls x) dx fs) ∧ fs.lookup m = none ∧ t σ H1 fun vs H2 => sp (v :: vs) H2 Q (WE W σ)) : tMtX c x m sp W ta t σ H Q := k
theorem z_rse (k : W (.ref (c.cls x)) none σ H) : sRaise c x W D σ H := k
theorem z_tr {ys : List Str} {tb : WX → TS} {ts : TS} {Wo : WX} (k : (∀ y ∈ ys, PySem.W.exmOne K (.ref (c.cls y)) (.ref (c.cls x)) = some (SUB y x)) → tb (wOnly K (.ref (c.cls x)) (fun _ _ _ => ts) Wo D) D σ H) : sTry K c x ys tb ts Wo D σ H := k
/-- an exception of the clause's class -/
theorem z_caught {ts : TS} {Wo : WX} {d : Option Addr} (h : PySem.W.exmOne K (.ref (c.cls y)) (.ref (c.cls x)) = some (SUB y x)) (e : SUB y x = true) (k : ts D σ H) : wOnly K (.ref (c.cls x)) (fun _ _ _ => ts) Wo D (.ref (c.cls y)) d σ H :=
  ⟨true, by rw [h, e], fun _ _ _ => k, fun z => nomatch z⟩
theorem cst0 {ds : List V} (h : All2 (Cst.Is K) [] ds) : ds = [] := by cases h; rfl
theorem cstE {ms : List Cst} {ds : List V} (h : All2 (Cst.Is K) (.e :: ms) ds) : ∃ T ds', ds = .ref T :: ds' ∧ (∀ H, SqT K H T []) ∧ All2 (Cst.Is K) ms ds' := by
  cases h with
  | cons h t => obtain ⟨T, rfl, e⟩ := h; exact ⟨T, _, rfl, e, t⟩
theorem cstV {v : V} {ms : List Cst} {ds : List V} (h : All2 (Cst.Is K) (.v v :: ms) ds) : ∃ ds', ds = v :: ds' ∧ All2 (Cst.Is K) ms ds' := by
  cases h with
  | cons h t => cases h; exact ⟨_, rfl, t⟩
end
section
variable {K : PySem.W.Frag} {H : Hp} {σ : L2.St}
theorem z_gTup3 {t' : Addr} {a b d : V} {u v w : Nat} {P : L2.St → Hp → Prop} (h : SqT K H t' [a, b, d]) (k : P (((σ.set u (some a)).set v (some b)).set w (some d)) H) : gTup K 3 (gCons (gName u) (gCons (gName v) (gCons (gName w) gNil))) (.ref t') σ H P :=
  ⟨t', [a, b, d], rfl, h, rfl, a, [b, d], rfl, b, [d], rfl, d, [], rfl, rfl, k⟩
end
theorem dec_rn {a : Addr} : decide (V.ref a = V.non) = false := decide_eq_false (fun z => by cases z)
theorem dec_in {a : Int} : decide (V.int a = V.non) = false := decide_eq_false (fun z => by cases z)
theorem dec_sn {a : Str} : decide (V.str a = V.non) = false := decide_eq_false (fun z => by cases z)
theorem dec_bn {a : Bool} : decide (V.bl a = V.non) = false := decide_eq_false (fun z => by cases z)
/-! constants: tuples of the module -/
def tCstT (K : PySem.W.Frag) (xs : List V) : TE := fun σ H Q => ∀ T, (∀ H, SqT K H T xs) → Q (.ref T) H
theorem z_gtup {X : Cx} {x : Str} {xs : List V} {pos : Pos} (hm : ∃ T, X.mg x = some (.ref T) ∧ ∀ H, SqT X.K H T xs) (hg : Gl X x) (hd : (x == ("__debug__" : Str)) = false := by decide) : PE X (.Name x pos) (tCstT X.K xs) := by
  obtain ⟨T, hm, hs⟩ := hm
  exact ⟨fun pins s σ H Q I h => ld_glob I hg hm ⟨.ref T, H, I, rfl, h T hs⟩ hd⟩
theorem z_cstT {K : PySem.W.Frag} {xs : List V} {σ : L2.St} {H : Hp} {Q : VK} (k : ∀ T, (∀ H, SqT K H T xs) → Q (.ref T) H) : tCstT K xs σ H Q := k
theorem sqT_lit {K : PySem.W.Frag} {T : Addr} {dd : Option Addr} {its : List Value} {n : Nat} {sl : Array (Option Value)} {xs : List V} (l : K.lookup T = some ⟨.type "tuple", dd, .seq its.toArray n, sl⟩) (h : Vals xs its) (hs : xs.length ≤ 1000) : ∀ H, SqT K H T xs := fun H =>
  .inr ⟨_, _, _, l, rfl, rfl, by have := h.length; simp; exact Nat.le_trans (by omega : its.length ≤ 1000) (by decide), by simpa using h⟩
/-- an error of the class y, as «except x» asks -/
theorem exm_of {K : PySem.W.Frag} {C D : Addr} {b : Bool} (h1 : PySem.W.subIn K (.ref C) (.type "BaseException") = some true) (h2 : PySem.W.isClsIn K C = true) (h3 : PySem.W.typeIn K (.ref C) = some (.type "type")) (h4 : PySem.W.subIn K (.ref D) (.ref C) = some b) :
    PySem.W.exmOne K (.ref D) (.ref C) = some b := by
  have e1 : (PySem.W.subIn K (.ref C) (.type "BaseException") == some true) = true := by rw [h1] <;> rfl
  have e2 : ((PySem.W.clsIn K C).isSome && PySem.W.typeIn K (.ref C) == some (.type "type")) = true := by
    have q : (PySem.W.clsIn K C).isSome = true := h2
    rw [q, h3] <;> rfl
  show (if (PySem.W.subIn K (.ref C) (.type "BaseException") == some true) = true then (if ((PySem.W.clsIn K C).isSome && PySem.W.typeIn K (.ref C) == some (.type "type")) = true then PySem.W.subIn K (.ref D) (.ref C) else none) else none) = some b
  rw [if_pos e1, if_pos e2]
  exact h4

local macro_rules | `(tactic| walk_at "z") => `(tactic| with_reducible first
  | refine z_calS ?_ | refine z_mkX ?_ | refine z_mkK ?_ | refine z_mtX ?_ | refine z_rse ?_ | (refine z_tr ?_; intro _) | (refine z_cstT ?_; intro _ _) | refine z_forEA ?_ | refine z_lenSet ?_)
local macro_rules | `(tactic| walk_at "zy") => `(tactic| repeat (first | walk_at "z" | walk_at "zd" | rw [decide_eq_true rfl] | rw [dec_rn] | rw [dec_in] | rw [dec_sn] | rw [dec_bn]))

/-! dicts of the module with texts as keys; texts sign by sign -/
/-- a constant: a value, or a tuple -/
inductive DV where
  | v (x : V)
  | t (xs : List V)
def DV.Is (K : PySem.W.Frag) : DV → V → Prop
  | .v x, u => u = x
  | .t xs, u => ∃ T, u = .ref T ∧ ∀ H, SqT K H T xs
structure KD (K : PySem.W.Frag) (w : World) (mg : Str → Option Value) (x : Str) (l : List (Str × DV)) : Prop where
  ex : ∃ (d : Addr) (es : Array DictEntry) (n : Nat), mg x = some (.ref d) ∧ KDict K w d es n ∧ ∀ z : Str, (l.lookup z = none → PySem.W.nsIn K d z = some none) ∧ ∀ dv, l.lookup z = some dv → ∃ u v, PySem.W.nsIn K d z = some (some u) ∧ RelV v u ∧ dv.Is K v
def tKin (l : List (Str × DV)) (ta : TE) : TE := fun σ H Q => ta σ H fun x H1 => ∃ z, x = .str z ∧ Q (.bl (l.lookup z).isSome) H1
def tKout (l : List (Str × DV)) (ta : TE) : TE := fun σ H Q => ta σ H fun x H1 => ∃ z, x = .str z ∧ Q (.bl (!(l.lookup z).isSome)) H1
def tKix (K : PySem.W.Frag) (l : List (Str × DV)) (ta : TE) : TE := fun σ H Q => ta σ H fun x H1 => ∃ z dv, x = .str z ∧ l.lookup z = some dv ∧ ∀ v, dv.Is K v → Q v H1
section
variable {X : Cx} {x : Str} {l : List (Str × DV)} {p pos : Pos} {e : Expr} {te : TE}
theorem kd_get {K : PySem.W.Frag} {d : Addr} (h : ∀ z : Str, (l.lookup z = none → PySem.W.nsIn K d z = some none) ∧ ∀ dv, l.lookup z = some dv → ∃ u v, PySem.W.nsIn K d z = some (some u) ∧ RelV v u ∧ dv.Is K v) (z : Str) : ∃ r, PySem.W.nsIn K d z = some r ∧ r.isSome = (l.lookup z).isSome := by
  cases q : l.lookup z with
  | none => exact ⟨none, (h z).1 q, rfl⟩
  | some dv => obtain ⟨u, _, e, _⟩ := (h z).2 dv q; exact ⟨some u, e, rfl⟩
theorem kin_eq {d : Addr} {σ : L2.St} {H : Hp} {Q : VK} {K : PySem.W.Frag} (hz : ∀ z : Str, (l.lookup z = none → PySem.W.nsIn K d z = some none) ∧ ∀ dv, l.lookup z = some dv → ∃ u v, PySem.W.nsIn K d z = some (some u) ∧ RelV v u ∧ dv.Is K v) (h : tKin l te σ H Q) :
    tOp (fun x y H Q => ∃ (z : Str) (r : Option Value), x = .str z ∧ y = .ref d ∧ PySem.W.nsIn K d z = some r ∧ Q (.bl r.isSome) H) te (tC (.ref d)) σ H Q := by
  have q : (fun (y : V) (H1 : Hp) => ∃ z, y = .str z ∧ Q (.bl (l.lookup z).isSome) H1) = fun y H1 => ∃ (z : Str) (r : Option Value), y = .str z ∧ V.ref d = .ref d ∧ PySem.W.nsIn K d z = some r ∧ Q (.bl r.isSome) H1 := by
    funext y H1
    refine propext ⟨fun ⟨z, ey, q⟩ => ?_, fun ⟨z, r, ey, _, er, q⟩ => ?_⟩
    · obtain ⟨r, er, es⟩ := kd_get hz z
      exact ⟨z, r, ey, rfl, er, by rw [es]; exact q⟩
    · obtain ⟨r', er', es⟩ := kd_get hz z
      rw [er] at er'; cases er'
      exact ⟨z, ey, by rw [← es]; exact q⟩
  show te σ H _
  exact (congrArg (te σ H) q) ▸ h
theorem kout_eq {d : Addr} {σ : L2.St} {H : Hp} {Q : VK} {K : PySem.W.Frag} (hz : ∀ z : Str, (l.lookup z = none → PySem.W.nsIn K d z = some none) ∧ ∀ dv, l.lookup z = some dv → ∃ u v, PySem.W.nsIn K d z = some (some u) ∧ RelV v u ∧ dv.Is K v) (h : tKout l te σ H Q) :
    tOp (fun x y H Q => ∃ (z : Str) (r : Option Value), x = .str z ∧ y = .ref d ∧ PySem.W.nsIn K d z = some r ∧ Q (.bl (!r.isSome)) H) te (tC (.ref d)) σ H Q := by
  have q : (fun (y : V) (H1 : Hp) => ∃ z, y = .str z ∧ Q (.bl (!(l.lookup z).isSome)) H1) = fun y H1 => ∃ (z : Str) (r : Option Value), y = .str z ∧ V.ref d = .ref d ∧ PySem.W.nsIn K d z = some r ∧ Q (.bl (!r.isSome)) H1 := by
    funext y H1
    refine propext ⟨fun ⟨z, ey, q⟩ => ?_, fun ⟨z, r, ey, _, er, q⟩ => ?_⟩
    · obtain ⟨r, er, es⟩ := kd_get hz z
      exact ⟨z, r, ey, rfl, er, by rw [es]; exact q⟩
    · obtain ⟨r', er', es⟩ := kd_get hz z
      rw [er] at er'; cases er'
      exact ⟨z, ey, by rw [← es]; exact q⟩
  show te σ H _
  exact (congrArg (te σ H) q) ▸ h
theorem z_kin (D : KD X.K X.w X.mg x l) (he : PE X e te) (hg : Gl X x) (hd : (x == ("__debug__" : Str)) = false := by decide) : PE X (.Compare e [.In] [.Name x p] pos) (tKin l te) := by
  obtain ⟨d, es, n, hm, kd, hz⟩ := D.ex
  have a := pe_cmpR (pos := pos) (op_in_kd kd) he (pe_glob (v := .ref d) (pos := p) hg hm rfl hd) (by rfl)
  exact ⟨fun pins s σ H Q I h => a.run pins s σ H Q I (kin_eq hz h)⟩
theorem z_kout (D : KD X.K X.w X.mg x l) (he : PE X e te) (hg : Gl X x) (hd : (x == ("__debug__" : Str)) = false := by decide) : PE X (.Compare e [.NotIn] [.Name x p] pos) (tKout l te) := by
  obtain ⟨d, es, n, hm, kd, hz⟩ := D.ex
  have a := pe_cmpR (pos := pos) (op_notIn_kd kd) he (pe_glob (v := .ref d) (pos := p) hg hm rfl hd) (by rfl)
  exact ⟨fun pins s σ H Q I h => a.run pins s σ H Q I (kout_eq hz h)⟩
theorem z_kinP (D : KD X.K X.w X.mg x l) (he : PE X e te) (hg : Gl X x) (hd : (x == ("__debug__" : Str)) = false := by decide) : PT X (.Compare e [.In] [.Name x p] pos) (tTest (tKin l te)) := by
  obtain ⟨d, es, n, hm, kd, hz⟩ := D.ex
  have a := pt_cmpR (pos := pos) (op_in_kd kd) he (pe_glob (v := .ref d) (pos := p) hg hm rfl hd) (by rfl)
  exact ⟨fun pins s σ H Q I h => a.run pins s σ H Q I (kin_eq hz h)⟩
theorem z_koutP (D : KD X.K X.w X.mg x l) (he : PE X e te) (hg : Gl X x) (hd : (x == ("__debug__" : Str)) = false := by decide) : PT X (.Compare e [.NotIn] [.Name x p] pos) (tTest (tKout l te)) := by
  obtain ⟨d, es, n, hm, kd, hz⟩ := D.ex
  have a := pt_cmpR (pos := pos) (op_notIn_kd kd) he (pe_glob (v := .ref d) (pos := p) hg hm rfl hd) (by rfl)
  exact ⟨fun pins s σ H Q I h => a.run pins s σ H Q I (kout_eq hz h)⟩
theorem ix_kd {d : Addr} {es : Array DictEntry} {n : Nat} (D : KDict X.K X.w d es n) : IxR X (fun x y H Q => ∃ (z : Str) (u0 : Value) (v0 : V), x = .ref d ∧ y = .str z ∧ PySem.W.nsIn X.K d z = some (some u0) ∧ RelV v0 u0 ∧ Q v0 H) := by
  intro value slice pins s σ H x y v u Q I rx ry h hs
  have ex : x = .ref d := by obtain ⟨_, _, _, e, _⟩ := h; exact e
  have ev : v = .ref d := by subst ex; exact rx
  refine PyProof.Rows.tail_any (ev ▸ kd_type D I) PySem.F.slot_dict_getitem.lookup (op_item_kd D pins s σ H x y v u Q I rx ry h) hs
theorem z_kix (D : KD X.K X.w X.mg x l) (he : PE X e te) (hg : Gl X x) (hs : PlainIx e := by exact fun _ _ => rfl) (hd : (x == ("__debug__" : Str)) = false := by decide) : PE X (.Subscript (.Name x p) e pos) (tKix X.K l te) := by
  obtain ⟨d, es, n, hm, kd, hz⟩ := D.ex
  refine ⟨fun pins s σ H Q I h => ?_⟩
  have q : (fun (y : V) (H1 : Hp) => ∃ z dv, y = .str z ∧ l.lookup z = some dv ∧ ∀ v, dv.Is X.K v → Q v H1) = fun y H1 => V.ref d = .ref d ∧ ∃ z dv, y = .str z ∧ l.lookup z = some dv ∧ ∀ v, dv.Is X.K v → Q v H1 := by
    funext y H1
    exact propext ⟨fun z => ⟨rfl, z⟩, fun z => z.2⟩
  have h2 : te σ H fun y H1 => V.ref d = .ref d ∧ ∃ z dv, y = .str z ∧ l.lookup z = some dv ∧ ∀ v, dv.Is X.K v → Q v H1 := (congrArg (te σ H) q) ▸ h
  refine PyProof.Rows.Subscript_ (binT (ta := tC (.ref d)) (tb := te) (pe_glob (v := .ref d) (pos := p) hg hm rfl hd) he I (R := fun x y H1 => x = V.ref d ∧ ∃ z dv, y = .str z ∧ l.lookup z = some dv ∧ ∀ v, dv.Is X.K v → Q v H1) h2 fun v u s2 x y H2 I2 rx ry q => ?_)
  obtain ⟨rfl, z, dv, ey, el, q⟩ := q
  obtain ⟨w, w', en, r, i⟩ := (hz z).2 dv el
  exact ix_kd kd _ _ pins s2 σ H2 _ _ v u Q I2 rx ry ⟨z, w, w', rfl, ey, en, r, q w' i⟩ (hs _ _)
end
/-! what the top has written of such a dict -/
theorem find_lit {K : PySem.W.Frag} {es : List DictEntry} {l : List (Str × DV)} (r : All2 (fun (e : DictEntry) (kv : Str × DV) => (∃ t, e.key = .str kv.1 t) ∧ ∃ v, RelV v e.val ∧ kv.2.Is K v) es l) (z : Str) :
    es.any (·.refKey) = false ∧ (l.lookup z = none → es.find? (·.key.isStr z) = none) ∧ ∀ dv, l.lookup z = some dv → ∃ e v, es.find? (·.key.isStr z) = some e ∧ RelV v e.val ∧ dv.Is K v := by
  induction r with
  | nil => exact ⟨rfl, fun _ => rfl, fun dv h => by cases h⟩
  | @cons e kv es l h _ ih =>
    obtain ⟨⟨t, ek⟩, v, rv, iv⟩ := h
    obtain ⟨k, dv0⟩ := kv
    have b : e.key.isStr z = (z == k) := by
      rw [ek]
      first
        | rfl
        | (rw [Bool.eq_iff_iff]; simp [Value.isStr]; exact ⟨fun h => h.symm, fun h => h.symm⟩)
        | (simp [Value.isStr, eq_comm])
    refine ⟨by rw [List.any_cons, ih.1, Bool.or_false]; unfold DictEntry.refKey; rw [ek], ?_, ?_⟩
    · intro h
      rw [List.lookup_cons] at h
      rw [List.find?_cons, b]
      cases q : z == k with
      | true => rw [q] at h; cases h
      | false => rw [q] at h; exact ih.2.1 h
    · intro dv h
      rw [List.lookup_cons] at h
      rw [List.find?_cons, b]
      cases q : z == k with
      | true => rw [q] at h; cases h; exact ⟨e, v, rfl, rv, iv⟩
      | false => rw [q] at h; exact ih.2.2 dv h
theorem kd_of {K : PySem.W.Frag} {w : World} {mg : Str → Option Value} {x : Str} {d : Addr} {es : List DictEntry} {n : Nat} {l : List (Str × DV)} (hm : mg x = some (.ref d)) (at_ : K.lookup d = some ⟨.type "dict", none, .dict es.toArray n, #[]⟩) (lit : PySem.W.KeysLit w.params es) (low : (d == sysModules) = false)
    (r : All2 (fun (e : DictEntry) (kv : Str × DV) => (∃ t, e.key = .str kv.1 t) ∧ ∃ v, RelV v e.val ∧ kv.2.Is K v) es l) : KD K w mg x l := by
  refine ⟨d, es.toArray, n, hm, ⟨at_, by simpa using lit, low⟩, fun z => ?_⟩
  obtain ⟨h1, h2, h3⟩ := find_lit r z
  unfold PySem.W.nsIn
  rw [at_]
  dsimp only
  refine ⟨fun q => ?_, fun dv q => ?_⟩
  · have e := h2 q
    simp only [e, h1]
    rfl
  · obtain ⟨e, v, e1, rv, iv⟩ := h3 dv q
    refine ⟨e.val, v, ?_, rv, iv⟩
    simp only [e1]
/-! steps -/
section
variable {K : PySem.W.Frag} {l : List (Str × DV)} {ta te : TE} {σ : L2.St} {H : Hp} {Q : VK} {g : TG} {tb : TS} {D : Ends} {x : Str} {b : Bool}
theorem z_kinT (k : ta σ H fun x H1 => ∃ z, x = .str z ∧ Q (.bl (l.lookup z).isSome) H1) : tKin l ta σ H Q := k
theorem z_koutT (k : ta σ H fun x H1 => ∃ z, x = .str z ∧ Q (.bl (!(l.lookup z).isSome)) H1) : tKout l ta σ H Q := k
theorem z_kixT (k : ta σ H fun x H1 => ∃ z dv, x = .str z ∧ l.lookup z = some dv ∧ ∀ v, dv.Is K v → Q v H1) : tKix K l ta σ H Q := k
theorem z_kst {P : Str → Prop} {x : Str} (k : P x) : ∃ z, V.str x = .str z ∧ P z := ⟨x, rfl, k⟩
def zForTx (g : TG) (tb : TS) (D : Ends) (σ : L2.St) (v : V) (H1 : Hp) : Prop := ∃ x, v = .str x ∧ ∃ W : Nat → Nat → L2.St → Hp → Prop, (∃ m, W 0 m σ H1) ∧ ∀ i m σ H, W i m σ H →
  ((Its x).stop i H ∧ D.nx σ H) ∨ ((Its x).go i H ∧ ∃ N : L2.St → Hp → Prop, (∀ σ' H', N σ' H' → ∃ m', m' < m ∧ W (i + 1) m' σ' H') ∧ ∀ y H', (Its x).yld i H y H' → g y σ H' fun σ2 H2 => tb { D with nx := N, ct := N, bk := D.nx } σ2 H2)
theorem z_forTx (k : te σ H fun v H1 => zForTx g tb D σ v H1) : tFor (iStr te) g tb D σ H := k
/-- over the signs of a text -/
theorem z_txt {u : Nat} (Pv : Nat → L2.St → Hp → Prop) (h0 : Pv 0 σ H) (hs : ∀ i c σ' H', x.cps[i]? = some c → Pv i σ' H' → tb { D with nx := Pv (i + 1), ct := Pv (i + 1), bk := D.nx } (σ'.set u (some (.str ⟨#[c]⟩))) H')
    (hd : ∀ σ' H', Pv x.cps.size σ' H' → D.nx σ' H') : zForTx (gName u) tb D σ (.str x) H := by
  refine ⟨x, rfl, fun i m σ H => m = x.cps.size - i ∧ i ≤ x.cps.size ∧ Pv i σ H, ⟨_, rfl, Nat.zero_le _, h0⟩, ?_⟩
  rintro i m σ' H' ⟨rfl, hi, p⟩
  by_cases lt : i < x.cps.size
  · refine .inr ⟨lt, Pv (i + 1), fun σ2 H2 p' => ⟨_, by omega, rfl, by omega, p'⟩, ?_⟩
    rintro y H2 ⟨rfl, c, hc, rfl⟩
    exact hs i c σ' H2 hc p
  · have e : i = x.cps.size := by omega
    subst e
    exact .inl ⟨Nat.le_refl _, hd σ' H' p⟩
/-- the place of a flat value in a list -/
theorem z_index {a : Addr} {ys : List V} {y z : V} {j : Nat} (h : SqL K H a ys) (fy : flatV y = true) (fys : ys.all flatV = true) (hz : ys[j]? = some z) (e : eqV z y = true) (no : ∀ (m : Nat) (z' : V), m < j → ys[m]? = some z' → eqV z' y = false) (k : Q (.int (j : Nat)) H) : rIndex K (.ref a) [y] H Q :=
  ⟨a, ys, y, j, z, rfl, rfl, h, fy, fys, hz, e, no, k⟩
end
/-! a try of several clauses -/
def hMany (c : CEnv) (l : List (Str × TS)) : List (Value × (Addr → Value → Option Addr → TS)) := l.map fun z => (.ref (c.cls z.1), fun _ _ _ => z.2)
def sTryM (K : PySem.W.Frag) (c : CEnv) (l : List (Str × TS)) (ys : List Str) (tb : WX → TS) (Wo : WX) : TS := fun D σ H =>
  (∀ x ∈ l.map (·.1), ∀ y ∈ ys, PySem.W.exmOne K (.ref (c.cls y)) (.ref (c.cls x)) = some (SUB y x)) → tb (wMany K Wo D (hMany c l)) D σ H
theorem z_tryM {X : Cx} {c : CEnv} {l : List (Str × TS)} {ys : List Str} {body : List Stmt} {h₀ : ExceptHandler} {hds : List ExceptHandler} {pos : Pos} {tb : WX → TS} {Wo : WX} (hs : X.stack = X.env :: X.outer) (hf : X.env.frame = some X.env.locals)
    (he : ∀ x ∈ l.map (·.1), ∀ y ∈ ys, PySem.W.exmOne X.K (.ref (c.cls y)) (.ref (c.cls x)) = some (SUB y x)) (tk : Takes X Wo)
    (hb : ∀ (W : WX) (pn : List (Addr × Obj)) (xe : Value → Shared → Prop), Takes (X.tr pn xe) W → PassesOwn (model X.prog X.w) X.A X.env xe → PSs (X.tr pn xe) body (tb W)) (hh : HdsOk X (h₀ :: hds) (hMany c l)) : PS X (.Try body (h₀ :: hds) [] [] pos) (sTryM X.K c l ys tb Wo) :=
  ⟨fun pins s σ H D I h => (ps_try_many hs hf tk hb hh).run pins s σ H D I (h he)⟩
theorem z_trM {K : PySem.W.Frag} {c : CEnv} {l : List (Str × TS)} {ys : List Str} {tb : WX → TS} {Wo : WX} {D : Ends} {σ : L2.St} {H : Hp} (k : (∀ x ∈ l.map (·.1), ∀ y ∈ ys, PySem.W.exmOne K (.ref (c.cls y)) (.ref (c.cls x)) = some (SUB y x)) → tb (wMany K Wo D (hMany c l)) D σ H) : sTryM K c l ys tb Wo D σ H := k
theorem z_caughtM {K : PySem.W.Frag} {c : CEnv} {x y : Str} {ts : TS} {l : List (Str × TS)} {Wo : WX} {D : Ends} {σ : L2.St} {H : Hp} {d : Option Addr} (h : PySem.W.exmOne K (.ref (c.cls y)) (.ref (c.cls x)) = some (SUB y x)) (e : SUB y x = true) (k : ts D σ H) : wMany K Wo D (hMany c ((x, ts) :: l)) (.ref (c.cls y)) d σ H :=
  ⟨true, by rw [h, e], fun _ _ _ => k, fun z => nomatch z⟩
theorem z_asgG {K : PySem.W.Frag} {te : TE} {n : Nat} {gs : TGs} {D : Ends} {σ : L2.St} {H : Hp} (k : te σ H fun x H1 => gTup K n gs x σ H1 D.nx) : tAsg te (gTup K n gs) D σ H := k
/-! ord; kinds of flat values; signs in a comprehension -/
def uOrd : List V → Hp → VK → Prop := fun xs H Q => ∃ x, xs = [.str x] ∧ x.length = 1 ∧ Q (.int (x.cps.getD 0 0 : Nat)) H
theorem call_uOrd {X : Cx} : CallR X (.builtin "ord") uOrd := call_ord
theorem z_ord {c : Nat} {H : Hp} {Q : VK} (k : Q (.int (c : Nat)) H) : uOrd [.str ⟨#[c]⟩] H Q := ⟨_, rfl, rfl, k⟩
theorem z_isss {K : PySem.W.Frag} {H : Hp} {Q : VK} {x : Str} (k : Q (.bl true) H) : uIsi K [.str x, .ty "str"] H Q := ⟨_, _, true, .ty _, .base (.str x), rfl, k⟩
theorem z_issb {K : PySem.W.Frag} {H : Hp} {Q : VK} {x : Str} (k : Q (.bl false) H) : uIsi K [.str x, .ty "bool"] H Q := ⟨_, _, false, .ty _, .base (.str x), rfl, k⟩
theorem z_isis {K : PySem.W.Frag} {H : Hp} {Q : VK} {i : Int} (k : Q (.bl false) H) : uIsi K [.int i, .ty "str"] H Q := ⟨_, _, false, .ty _, .base (.int i), rfl, k⟩
theorem z_isbs {K : PySem.W.Frag} {H : Hp} {Q : VK} {b : Bool} (k : Q (.bl false) H) : uIsi K [.bl b, .ty "str"] H Q := ⟨_, _, false, .ty _, .base (.bl b), rfl, k⟩
theorem z_lenS {K : PySem.W.Frag} {H : Hp} {Q : VK} {x : Str} (h : x.length ≤ 100000) (k : Q (.int x.length) H) : uLen K [.str x] H Q := ⟨Nat.le_trans h (by decide), k⟩
def zLcTx (g : TG) (tt : TT) (te : TE) (vs : List Nat) (σ : L2.St) (v : V) (H1 : Hp) (Q : VK) : Prop := ∃ x, v = .str x ∧ ∀ C, H1 C = none → ∃ W : Nat → Nat → Hp → Prop, (∃ m, W 0 m (upd H1 C (.lst []))) ∧ ∀ i m H, W i m H →
  ((Its x).stop i H ∧ Q (.ref C) H) ∨ ((Its x).go i H ∧ ∃ Nx : Hp → Prop, (∀ H', Nx H' → ∃ m', m' < m ∧ W (i + 1) m' H') ∧ ∀ y H', (Its x).yld i H y H' → g y (wipe σ vs) H' fun σ2 H2 => wipe σ2 vs = wipe σ vs ∧ tt σ2 H2 fun b H3 =>
    if b = true then te σ2 H3 fun z H4 => ∃ acc, H4 C = some (.lst acc) ∧ acc.length < sizeLine ∧ Nx (upd H4 C (.lst (acc ++ [z]))) else Nx H3)
theorem z_lcTx {ti te : TE} {g : TG} {tt : TT} {vs : List Nat} {σ : L2.St} {H : Hp} {Q : VK} (k : ti σ H fun v H1 => zLcTx g tt te vs σ v H1 Q) : tLc (iStr ti) g tt te vs σ H Q := k
theorem z_lctx {x : Str} {u : Nat} {te : TE} {tt : TT} {vs : List Nat} {σ : L2.St} {H : Hp} {Q : VK} (Pv : Addr → Nat → Hp → Prop) (h0 : ∀ C, H C = none → Pv C 0 (upd H C (.lst [])))
    (hs : ∀ C i c H', H C = none → x.cps[i]? = some c → Pv C i H' → wipe ((wipe σ vs).set u (some (.str ⟨#[c]⟩))) vs = wipe σ vs ∧ tt ((wipe σ vs).set u (some (.str ⟨#[c]⟩))) H' fun b H3 =>
      if b = true then te ((wipe σ vs).set u (some (.str ⟨#[c]⟩))) H3 fun z H4 => ∃ acc, H4 C = some (.lst acc) ∧ acc.length < sizeLine ∧ Pv C (i + 1) (upd H4 C (.lst (acc ++ [z]))) else Pv C (i + 1) H3)
    (hd : ∀ C H', H C = none → Pv C x.cps.size H' → Q (.ref C) H') : zLcTx (gName u) tt te vs σ (.str x) H Q := by
  refine ⟨x, rfl, fun C hC => ⟨fun i m H => m = x.cps.size - i ∧ i ≤ x.cps.size ∧ Pv C i H, ⟨_, rfl, Nat.zero_le _, h0 C hC⟩, ?_⟩⟩
  rintro i m H' ⟨rfl, hi, p⟩
  by_cases lt : i < x.cps.size
  · refine .inr ⟨lt, Pv C (i + 1), fun H2 p' => ⟨_, by omega, rfl, by omega, p'⟩, ?_⟩
    rintro y H2 ⟨rfl, c, hc, rfl⟩
    exact hs C i c H2 hC hc p
  · have e : i = x.cps.size := by omega
    subst e
    exact .inl ⟨Nat.le_refl _, hd C H' hC p⟩

local macro_rules | `(tactic| walk_at "z") => `(tactic| with_reducible first
  | refine z_kinT ?_ | refine z_koutT ?_ | refine z_kixT ?_ | refine z_kst ?_ | refine z_forTx ?_ | refine z_asgG ?_ | (refine z_trM ?_; intro _) | refine z_ord ?_ | refine z_isss ?_ | refine z_issb ?_ | refine z_isis ?_ | refine z_isbs ?_ | refine z_lcTx ?_)

/-! ### in, not in of an own instance; methods that raise; raise with a value -/
def uInO (c : CEnv) (x : Str) (sp : Sp) : R2 := fun u v H Q => ∃ b dx fs, v = .ref b ∧ H b = some (.ins (c.cls x) dx fs) ∧ sp [.ref b, u] H (fun z H' => ∃ k, z = .bl k ∧ Q (.bl k) H') E0
def uOutO (c : CEnv) (x : Str) (sp : Sp) : R2 := fun u v H Q => ∃ b dx fs, v = .ref b ∧ H b = some (.ins (c.cls x) dx fs) ∧ sp [.ref b, u] H (fun z H' => ∃ k, z = .bl k ∧ Q (.bl (!k)) H') E0
section
variable {X : Cx} {c : CEnv} {k : Nat} {x m : Str} {ps gs : List Str} {sp : Sp} {W : WX} {p pos apos : Pos} {e o : Expr} {es : List Expr} {t tk : TA} {ta : TE}
theorem op_inO (CF : ClsF X.K X.mg c x gs) (M : Mth X.prog X.w X.K X.mg X.base k (c.cls x) "__contains__" ps sp) (hr : Room k X.A) : OpR X (compareOp .In) (uInO c x sp) := by
  intro pins s σ H u v y z Q I rx ry hq
  obtain ⟨f, fd, hM, hb, F⟩ := M.ex
  obtain ⟨b, dx, fs, rfl, ha, q⟩ := hq
  cases ry
  obtain ⟨mA, J, _⟩ := ins_get I.hok ha
  obtain ⟨od, J, _⟩ := J.look
  obtain ⟨m, hF⟩ := I.fr
  refine PySem.W.in_K hF I.ok.mod.kin J hM.at_ hM.fn ?_
  have r2 : Vals [V.ref b, u] [Value.ref b, y] := .cons rfl (.cons rx .nil)
  refine thn (run_fn (Q := fun z H' => ∃ k, z = .bl k ∧ Q (.bl k) H') (E := E0) (dvs := []) F hr hb .nil pass0 I r2 (by simpa using q)) fun w s' hw => ?_
  obtain ⟨zv, H', I', rz, kk, ez, q'⟩ := hw
  subst ez
  have rz2 : w = Value.bool kk := rz
  subst rz2
  exact wpAny_truthy_bool ⟨.bl kk, H', I', rfl, q'⟩
theorem op_outO (CF : ClsF X.K X.mg c x gs) (M : Mth X.prog X.w X.K X.mg X.base k (c.cls x) "__contains__" ps sp) (hr : Room k X.A) : OpR X (compareOp .NotIn) (uOutO c x sp) := by
  intro pins s σ H u v y z Q I rx ry hq
  obtain ⟨f, fd, hM, hb, F⟩ := M.ex
  obtain ⟨b, dx, fs, rfl, ha, q⟩ := hq
  cases ry
  obtain ⟨mA, J, _⟩ := ins_get I.hok ha
  obtain ⟨od, J, _⟩ := J.look
  obtain ⟨m, hF⟩ := I.fr
  refine PySem.W.notIn_K hF I.ok.mod.kin J hM.at_ hM.fn ?_
  have r2 : Vals [V.ref b, u] [Value.ref b, y] := .cons rfl (.cons rx .nil)
  refine thn (run_fn (Q := fun z H' => ∃ k, z = .bl k ∧ Q (.bl (!k)) H') (E := E0) (dvs := []) F hr hb .nil pass0 I r2 (by simpa using q)) fun w s' hw => ?_
  obtain ⟨zv, H', I', rz, kk, ez, q'⟩ := hw
  subst ez
  have rz2 : w = Value.bool kk := rz
  subst rz2
  exact wpAny_truthy_bool ⟨.bl (!kk), H', I', rfl, q'⟩
theorem z_methX {pl : Sem Bool} (he : PE X o ta) (CF : ClsF X.K X.mg c x gs) (M : MthX X.prog X.w X.K X.mg X.base k (c.cls x) m ps sp) (hx : ∀ σ, PassesAt (L2.CX X.prog X.w) X σ (WE W σ)) (hr : Room k X.A) (ha : PA X (e :: es) t)
    (hst : starEach (e :: es) X.env = (false, eval e X.env) :: starEach es X.env := by rfl) (hpl : (backTo pos (starEach es X.env)).any (·.1) = false := by rfl)
    (ht : eval (.Call (.Attribute o m apos) (e :: es) [] pos) X.env = (do
      let ov ← eval o X.env
      standAt apos.atName
      let (f, first) ← holding [ov] (getMethod ov m pl)
      callWith pos f first (backTo pos (starEach (e :: es) X.env)) (backToKw pos (keywordEach [] X.env))) := by rfl) : PE X (.Call (.Attribute o m apos) (e :: es) [] pos) (tMtX c x m sp W ta t) := by
  obtain ⟨f, fd, hM, hb, F⟩ := M.ex
  refine ⟨fun pins s σ H Q I h => ?_⟩
  refine PySem.W.methodCall_KW (pl := pl) (thn (he.run pins s σ H _ I h) fun u s1 ⟨x, H1, I1, rx, a, dx, fs, ex, ea, l, q⟩ => ?_) ht
  subst ex
  obtain rfl : u = Value.ref a := rx
  refine getmeth_ok I1 ea CF.ok.cl hM l ?_
  refine PySem.W.callWith_K (first := [.ref a]) (h₀ := X.base) I.ok.mod.kin hM.kp (thn (ha.run pos pins s1 σ H1 _ I1 q) fun us s2 ⟨vs, H2, I2, r, q2⟩ => ⟨I2.kIn, ?_⟩) hst hpl
  exact run_fnS (us := .ref a :: us) (vs := .ref a :: vs) F hr hb (hx σ) I2 (.cons rfl r) q2
theorem z_methX0 {pl : Sem Bool} (he : PE X o ta) (CF : ClsF X.K X.mg c x gs) (M : MthX X.prog X.w X.K X.mg X.base k (c.cls x) m ps sp) (hx : ∀ σ, PassesAt (L2.CX X.prog X.w) X σ (WE W σ)) (hr : Room k X.A)
    (ht : eval (.Call (.Attribute o m apos) [] [] pos) X.env = (do
      let ov ← eval o X.env
      standAt apos.atName
      let (f, first) ← holding [ov] (getMethod ov m pl)
      callWith pos f first (backTo pos (starEach [] X.env)) (backToKw pos (keywordEach [] X.env))) := by rfl) : PE X (.Call (.Attribute o m apos) [] [] pos) (tMtX c x m sp W ta tNil) := by
  obtain ⟨f, fd, hM, hb, F⟩ := M.ex
  refine ⟨fun pins s σ H Q I h => ?_⟩
  refine PySem.W.methodCall_KW (pl := pl) (thn (he.run pins s σ H _ I h) fun u s1 ⟨x, H1, I1, rx, a, dx, fs, ex, ea, l, q⟩ => ?_) ht
  subst ex
  obtain rfl : u = Value.ref a := rx
  refine getmeth_ok I1 ea CF.ok.cl hM l ?_
  exact PySem.W.callWith_K0 (first := [.ref a]) I1.kIn hM.kp (run_fnS (us := [.ref a]) (vs := [.ref a]) F hr hb (hx σ) I1 (.cons rfl .nil) q)
end
def sRaiseA (c : CEnv) (x : Str) (te : TE) (W : WX) : TS := fun _ σ H => te σ H fun _ H1 => W (.ref (c.cls x)) none σ H1
theorem z_raiseA {X : Cx} {c : CEnv} {x : Str} {W : WX} {e : Expr} {te : TE} {p pos pos' : Pos} (hc : X.calm = true) (E : ExcF X.K X.mg c x) (tk : Takes X W) (hg : Gl X x) (he : PE X e te) (hs : starEach [e] X.env = (false, eval e X.env) :: starEach [] X.env := by rfl) (hdb : (x == ("__debug__" : Str)) = false := by decide) : PS X (.Raise (some (.Call (.Name x p) [e] [] pos)) none pos') (sRaiseA c x te W) :=
  ps_raise hc tk (SkE.pmk_own1 F.excBase_ValueError E.q E.mg E.kp (raises_own E.sb E.ty) hg he hs hdb)
theorem z_rsa {c : CEnv} {x : Str} {te : TE} {W : WX} {D : Ends} {σ : L2.St} {H : Hp} (k : te σ H fun _ H1 => W (.ref (c.cls x)) none σ H1) : sRaiseA c x te W D σ H := k
/-- a flat value is equal to itself -/
theorem z_neSelf {K : PySem.W.Frag} {v : V} {H : Hp} {Q : VK} (h : flatV v = true) (k : Q (.bl false) H) : uNe K v v H Q := by
  cases v <;> first | (cases h; done) | skip
  · exact z_neN k
  · refine z_neB ?_; rw [decide_eq_true rfl]; exact k
  · refine z_ne ?_; rw [decide_eq_true rfl]; exact k
  · refine z_neS ?_; rw [decide_eq_true rfl]; exact k

local macro_rules | `(tactic| walk_at "z") => `(tactic| with_reducible first
  | refine z_rsa ?_)

/-! ### the root -/
def rootN : Nat → Nat
  | 0 => 0
  | n + 1 => if (rootN n + 1) * (rootN n + 1) ≤ n + 1 then rootN n + 1 else rootN n
theorem rootN_spec (n : Nat) : rootN n * rootN n ≤ n ∧ n < (rootN n + 1) * (rootN n + 1) := by
  induction n with
  | zero => exact ⟨Nat.le_refl _, by decide⟩
  | succ n ih =>
    obtain ⟨h1, h2⟩ := ih
    unfold rootN
    split
    · rename_i h
      refine ⟨h, ?_⟩
      generalize rootN n = r at *
      have e : (r + 1 + 1) * (r + 1 + 1) = (r + 1) * (r + 1) + 2 * (r + 1) + 1 := by
        simp only [Nat.add_mul, Nat.mul_add]; omega
      omega
    · rename_i h
      refine ⟨by omega, by omega⟩
def rootZ (n : Int) : Int := (rootN n.toNat : Nat)
theorem rootZ_nn (n : Int) : 0 ≤ rootZ n := Int.natCast_nonneg _
theorem rootZ_spec {n : Int} (h : 0 ≤ n) : rootZ n * rootZ n ≤ n ∧ n < (rootZ n + 1) * (rootZ n + 1) := by
  have s := rootN_spec n.toNat
  unfold rootZ
  generalize rootN n.toNat = r at *
  have e : ((n.toNat : Nat) : Int) = n := Int.toNat_of_nonneg h
  constructor
  · have := Int.ofNat_le.mpr s.1
    rw [← e]; push_cast at this ⊢; exact this
  · have := Int.ofNat_lt.mpr s.2
    rw [← e]; push_cast at this ⊢; exact this
theorem sq_lt {a b : Int} (h0 : 0 ≤ a) (hb : 0 ≤ b) (h : a * a < b * b) : a < b := by
  rcases Int.lt_or_le a b with h1 | h1
  · exact h1
  · have := Int.mul_le_mul h1 h1 hb h0
    omega
theorem rootZ_uniq {n r : Int} (h0 : 0 ≤ r) (h1 : r * r ≤ n) (h2 : n < (r + 1) * (r + 1)) : r = rootZ n := by
  have hn : 0 ≤ n := Int.le_trans (Int.mul_nonneg h0 h0) h1
  obtain ⟨s1, s2⟩ := rootZ_spec hn
  have s0 := rootZ_nn n
  have a := sq_lt h0 (by omega) (Int.lt_of_le_of_lt h1 s2)
  have b := sq_lt s0 (by omega) (Int.lt_of_le_of_lt s1 h2)
  omega
theorem rootZ_neg {n : Int} (h : n < 0) : rootZ n = 0 := by
  unfold rootZ
  rw [Int.toNat_of_nonpos (by omega)]; rfl
/-- a factor is short when its square is -/
theorem mul_sq {a n : Int} {b : Nat} (h0 : 0 ≤ a) (h : a * a ≤ n) (hn : n < 2 ^ b) (hb : 0 < b ∧ b ≤ 400000) : MulOk a a := by
  have h1 : a.natAbs < 2 ^ b := by
    have h3 : a ≤ a * a := by
      rcases Int.lt_or_le a 1 with z | z
      · have : a = 0 := by omega
        subst this; simp
      · have := Int.mul_le_mul_of_nonneg_right z h0
        omega
    have h4 : ((2 ^ b : Nat) : Int) = (2 : Int) ^ b := by simp
    omega
  exact .inr (wide_mul h1 h1 hb.1 hb.1 (by omega))
-- root(number): slots 0:number 1:low 2:high 3:middle
def T_root_b1 (K : PySem.W.Frag) : TS :=
    (tAsg (tOp uMul (tVar 2) (tC (.int 2))) (gName 2))
def T_root_b2 (K : PySem.W.Frag) : TS :=
    (tSeq (tAsg (tOp uDiv (tOp (uAdd K) (tVar 1) (tVar 2)) (tC (.int 2))) (gName 3))
    (tIfS (tTest (tOp uLe (tOp uMul (tVar 3) (tVar 3)) (tVar 0))) (tAsg (tVar 3) (gName 1)) (tAsg (tVar 3) (gName 2))))
def T_root (K : PySem.W.Frag) : TS :=
    (tSeq (tAsg (tC (.int 0)) (gName 1))
    (tSeq (tAsg (tC (.int 1)) (gName 2))
    (tSeq (tWhile (tTest (tOp uLe (tOp uMul (tVar 2) (tVar 2)) (tVar 0))) (T_root_b1 K))
    (tSeq (tWhile (tTest (tOp uGt (tOp uSub (tVar 2) (tVar 1)) (tC (.int 1)))) (T_root_b2 K))
    (tRet (tVar 1))))))
def sp_root (K : PySem.W.Frag) : Sp := fun vs H Q _ => ∃ n : Int, vs = [.int n] ∧ n < 2 ^ 100000 ∧ Q (.int (rootZ n)) H
theorem r_root {K : PySem.W.Frag} {n : Int} {H : Hp} {D : Ends} (hn : n < 2 ^ 100000) (k : D.rt (.int (rootZ n)) H) : T_root K D [some (.int n), none, none, none] H := by
  unfold T_root
  walk_at "zz"
  have p2 : (2 : Int) ^ 100000 > 0 := Int.pow_pos (by decide)
  have pe : (2 : Int) ^ 100000 * 4 + 1 < 2 ^ 100003 := by
    have : (2 : Int) ^ 100003 = 2 ^ 100000 * 8 := by rw [show (100003 : Nat) = 100000 + 3 from rfl, Int.pow_add]; rfl
    omega
  generalize hM : (2 : Int) ^ 100000 = M at *
  refine z_while (fun m σ H' => H = H' ∧ ∃ h : Int, σ = [some (.int n), some (.int 0), some (.int h), none] ∧ 1 ≤ h ∧ (h = 1 ∨ h * h ≤ 4 * n) ∧ m = (n + 1 - h).toNat) (n + 1 - 1).toNat ⟨rfl, 1, rfl, by decide, .inl rfl, rfl⟩ ?_
  rintro m σ H' ⟨rfl, h, rfl, h1, h2, rfl⟩
  walk_at "zz"
  refine z_mul ?_ ?_
  · have : h * h ≤ 4 * M + 1 := by
      rcases h2 with rfl | h2 <;> omega
    exact mul_sq (n := h * h) (b := 100003) (by omega) (Int.le_refl _) (by omega) (by decide)
  walk_at "zz"
  refine z_itD (fun c => z_turn ?_) (fun c => ?_)
  · unfold T_root_b1
    walk_at "zz"
    have h3 : h ≤ n := by
      have := Int.mul_le_mul_of_nonneg_left h1 (show 0 ≤ h by omega)
      omega
    refine ⟨_, ?_, rfl, h * 2, rfl, by omega, .inr ?_, rfl⟩
    · omega
    · have : h * 2 * (h * 2) = 4 * (h * h) := by
        rw [Int.mul_assoc, Int.mul_left_comm 2 h 2, ← Int.mul_assoc, Int.mul_comm (h * h)]; rfl
      omega
  walk_at "zz"
  refine z_while (fun m σ H' => H = H' ∧ ∃ (lo hi : Int) (v : Option V), σ = [some (.int n), some (.int lo), some (.int hi), v] ∧ 0 ≤ lo ∧ lo < hi ∧ n < hi * hi ∧ (0 ≤ n → lo * lo ≤ n) ∧ hi ≤ h ∧ m = (hi - lo).toNat) (h - 0).toNat ⟨rfl, 0, h, none, rfl, by omega, by omega, by omega, fun z => by omega, Int.le_refl _, rfl⟩ ?_
  rintro m σ H' ⟨rfl, lo, hi, v, rfl, g1, g2, g3, g4, g5, rfl⟩
  walk_at "zz"
  refine z_itD (fun c2 => z_turn ?_) (fun c2 => ?_)
  · unfold T_root_b2
    walk_at "zz"
    have e1 : lo < (lo + hi) / 2 := by omega
    have e2 : (lo + hi) / 2 < hi := by omega
    generalize (lo + hi) / 2 = md at *
    have hm : md * md ≤ h * h := Int.mul_le_mul (by omega) (by omega) (by omega) (by omega)
    refine z_mul ?_ ?_
    · refine mul_sq (n := h * h) (b := 100003) (by omega) hm ?_ (by decide)
      rcases h2 with rfl | h2 <;> omega
    walk_at "zz"
    refine z_itD (fun c3 => ?_) (fun c3 => ?_)
    · walk_at "zz"
      exact ⟨_, by omega, rfl, md, hi, _, rfl, by omega, by omega, g3, fun _ => c3, g5, rfl⟩
    · walk_at "zz"
      exact ⟨_, by omega, rfl, lo, md, _, rfl, by omega, by omega, by omega, g4, by omega, rfl⟩
  · walk_at "zz"
    have e : hi = lo + 1 := by omega
    subst e
    rcases Int.lt_or_le n 0 with hz | hz
    · have : lo = 0 := by
        rcases h2 with rfl | h2
        · omega
        · exfalso
          have := Int.mul_nonneg (show 0 ≤ h by omega) (show 0 ≤ h by omega)
          omega
      subst this
      rw [rootZ_neg hz] at k
      exact k
    · rw [← rootZ_uniq g1 (g4 hz) g3] at k
      exact k
theorem root_c {K : PySem.W.Frag} {n : Int} {H : Hp} {Q : VK} {E : XK} (hn : n < 2 ^ 100000) (k : Q (.int (rootZ n)) H) : sp_root K [.int n] H Q E := ⟨n, rfl, hn, k⟩
-- gap(far, near): slots 0:far 1:near
def T_gap (K : PySem.W.Frag) : TS :=
    (tSeq (tIfS (tTest (tOp uGe (tVar 1) (tVar 0))) (tRet (tC (.int 0))) tNext)
    (tRet (tOp uSub (tOp (uAdd K) (tVar 0) (tVar 1)) (tCal (sp_root K) (tCons (tOp uMul (tOp uMul (tC (.int 4)) (tVar 0)) (tVar 1)) tNil)))))
def gapZ (far near : Int) : Int := if near ≥ far then 0 else far + near - rootZ (4 * far * near)
def Short (a : Int) : Prop := a.natAbs < 2 ^ 40000
theorem Short.mul {a b : Int} (ha : Short a) (hb : Short b) : MulOk a b := .inr (wide_mul ha hb (by decide) (by decide) (by decide))
theorem pow_le_pow {a b : Nat} (h : a ≤ b) : (2 : Nat) ^ a ≤ 2 ^ b := Nat.pow_le_pow_right (by decide) h
theorem Short.of {a : Int} {b : Nat} (h : a.natAbs < 2 ^ b) (hb : b ≤ 40000) : Short a := Nat.lt_of_lt_of_le h (pow_le_pow hb)
theorem Short.four {a : Int} (ha : Short a) : (4 * a).natAbs < 2 ^ 40003 := by
  rw [Int.natAbs_mul, show (40003 : Nat) = 3 + 40000 from rfl, Nat.pow_add]
  exact Nat.mul_lt_mul'' (by decide) ha
theorem Short.mul4 {a b : Int} (ha : Short a) (hb : Short b) : MulOk (4 * a) b := .inr (wide_mul ha.four hb (by decide) (by decide) (by decide))
theorem mul4 {a b : Int} (ha : Short a) (hb : Short b) : 4 * a * b < 2 ^ 100000 := by
  have h1 : (4 * a * b).natAbs < 2 ^ (3 + 40000 + 40000) := by
    rw [Int.natAbs_mul, Int.natAbs_mul, Nat.pow_add, Nat.pow_add]
    exact Nat.mul_lt_mul'' (Nat.mul_lt_mul'' (by decide) ha) hb
  have h2 : (2 : Nat) ^ (3 + 40000 + 40000) ≤ 2 ^ 100000 := pow_le_pow (by decide)
  have h3 : ((2 ^ 100000 : Nat) : Int) = (2 : Int) ^ 100000 := by rw [Int.natCast_pow]; rfl
  rw [← h3]
  generalize (2 : Nat) ^ 100000 = M at *
  generalize (2 : Nat) ^ (3 + 40000 + 40000) = M2 at *
  omega
def sp_gap (K : PySem.W.Frag) : Sp := fun vs H Q _ => ∃ far near : Int, vs = [.int far, .int near] ∧ Short far ∧ Short near ∧ Q (.int (gapZ far near)) H
theorem r_gap {K : PySem.W.Frag} {far near : Int} {H : Hp} {D : Ends} (h1 : Short far) (h2 : Short near) (k : D.rt (.int (gapZ far near)) H) : T_gap K D [some (.int far), some (.int near)] H := by
  unfold T_gap
  walk_at "zz"
  refine z_itD (fun c => ?_) (fun c => ?_)
  · walk_at "zz"
    rw [show gapZ far near = 0 from if_pos c] at k
    exact k
  · walk_at "zz"
    refine z_mul ?_ ?_
    · exact Short.mul4 h1 h2
    walk_at "zz"
    refine root_c (mul4 h1 h2) ?_
    walk_at "zz"
    rw [show gapZ far near = far + near - rootZ (4 * far * near) from if_neg c] at k
    exact k
abbrev N_root : List Str := ["number", "low", "high", "middle"]
theorem w_root {K : PySem.W.Frag} : Wd (T_root K) N_root 1 (sp_root K) := fun vs H Q E h => by
  obtain ⟨n, rfl, hn, k⟩ := h
  exact ⟨rfl, r_root hn k⟩
abbrev N_gap : List Str := ["far", "near"]
theorem w_gap {K : PySem.W.Frag} : Wd (T_gap K) N_gap 2 (sp_gap K) := fun vs H Q E h => by
  obtain ⟨far, near, rfl, h1, h2, k⟩ := h
  exact ⟨rfl, r_gap h1 h2 k⟩

/-! ### vectors -/
def innerZ : List Int → List Int → Int
  | x :: xs, y :: ys => x * y + innerZ xs ys
  | _, _ => 0
def distZ : List Int → List Int → Int
  | x :: xs, y :: ys => (x - y) * (x - y) + distZ xs ys
  | _, _ => 0
def diffZ : List Int → List Int → Int
  | x :: xs, y :: ys => (if x = y then 0 else 1) + diffZ xs ys
  | _, _ => 0
theorem sq_nn (x : Int) : 0 ≤ x * x := by
  rcases Int.le_total 0 x with h | h
  · exact Int.mul_nonneg h h
  · exact Int.mul_nonneg_of_nonpos_of_nonpos h h
theorem distZ_nn : ∀ a b : List Int, 0 ≤ distZ a b
  | x :: xs, y :: ys => Int.add_nonneg (sq_nn _) (distZ_nn xs ys)
  | [], _ => Int.le_refl 0
  | _ :: _, [] => Int.le_refl 0
theorem distZ_comm : ∀ a b : List Int, distZ a b = distZ b a
  | x :: xs, y :: ys => by
    show (x - y) * (x - y) + _ = (y - x) * (y - x) + _
    rw [distZ_comm xs ys, show x - y = -(y - x) by omega, Int.neg_mul_neg]
  | [], [] => rfl
  | [], _ :: _ => rfl
  | _ :: _, [] => rfl
theorem take_s {xs : List Int} {i : Nat} (h : i < xs.length) : xs.take (i + 1) = xs.take i ++ [xs.getD i 0] := by
  rw [List.take_succ, List.getElem?_eq_getElem h]
  simp [List.getD, h]
theorem distZ_app : ∀ (a b : List Int) (x y : Int), a.length = b.length → distZ (a ++ [x]) (b ++ [y]) = distZ a b + (x - y) * (x - y)
  | [], [], x, y, _ => by show (x - y) * (x - y) + 0 = 0 + (x - y) * (x - y); omega
  | [], _ :: _, _, _, h => by cases h
  | _ :: _, [], _, _, h => by cases h
  | u :: a, v :: b, x, y, h => by
    show (u - v) * (u - v) + distZ (a ++ [x]) (b ++ [y]) = (u - v) * (u - v) + distZ a b + (x - y) * (x - y)
    rw [distZ_app a b x y (by simpa using h)]; omega
theorem innerZ_app : ∀ (a b : List Int) (x y : Int), a.length = b.length → innerZ (a ++ [x]) (b ++ [y]) = innerZ a b + x * y
  | [], [], x, y, _ => by show x * y + 0 = 0 + x * y; omega
  | [], _ :: _, _, _, h => by cases h
  | _ :: _, [], _, _, h => by cases h
  | u :: a, v :: b, x, y, h => by
    show u * v + innerZ (a ++ [x]) (b ++ [y]) = u * v + innerZ a b + x * y
    rw [innerZ_app a b x y (by simpa using h)]; omega
theorem diffZ_app : ∀ (a b : List Int) (x y : Int), a.length = b.length → diffZ (a ++ [x]) (b ++ [y]) = diffZ a b + (if x = y then 0 else 1)
  | [], [], x, y, _ => by show (if x = y then (0 : Int) else 1) + 0 = 0 + (if x = y then 0 else 1); omega
  | [], _ :: _, _, _, h => by cases h
  | _ :: _, [], _, _, h => by cases h
  | u :: a, v :: b, x, y, h => by
    show (if u = v then (0 : Int) else 1) + diffZ (a ++ [x]) (b ++ [y]) = (if u = v then 0 else 1) + diffZ a b + (if x = y then 0 else 1)
    rw [diffZ_app a b x y (by simpa using h)]; omega
theorem distZ_take {a b : List Int} {i : Nat} (h : a.length = b.length) (hi : i < a.length) : distZ (a.take (i + 1)) (b.take (i + 1)) = distZ (a.take i) (b.take i) + (a.getD i 0 - b.getD i 0) * (a.getD i 0 - b.getD i 0) := by
  rw [take_s hi, take_s (h ▸ hi), distZ_app _ _ _ _ (by simp [h])]
theorem innerZ_take {a b : List Int} {i : Nat} (h : a.length = b.length) (hi : i < a.length) : innerZ (a.take (i + 1)) (b.take (i + 1)) = innerZ (a.take i) (b.take i) + a.getD i 0 * b.getD i 0 := by
  rw [take_s hi, take_s (h ▸ hi), innerZ_app _ _ _ _ (by simp [h])]
theorem diffZ_take {a b : List Int} {i : Nat} (h : a.length = b.length) (hi : i < a.length) : diffZ (a.take (i + 1)) (b.take (i + 1)) = diffZ (a.take i) (b.take i) + (if a.getD i 0 = b.getD i 0 then 0 else 1) := by
  rw [take_s hi, take_s (h ▸ hi), diffZ_app _ _ _ _ (by simp [h])]
/-- all within b of nought -/
def Bd (b : Int) (ns : List Int) : Prop := ∀ x ∈ ns, -b ≤ x ∧ x ≤ b
theorem Bd.app {b x : Int} {ns : List Int} (h : Bd b ns) (h1 : -b ≤ x) (h2 : x ≤ b) : Bd b (ns ++ [x]) := fun y hy => by
  rcases List.mem_append.mp hy with hy | hy
  · exact h y hy
  · rw [List.mem_singleton.mp hy]; exact ⟨h1, h2⟩
theorem Bd.mono {b c : Int} {ns : List Int} (h : Bd b ns) (hbc : b ≤ c) : Bd c ns := fun y hy => by have := h y hy; omega
theorem getD_mem {ns : List Int} {i : Nat} (h : i < ns.length) : ns.getD i 0 ∈ ns := by
  rw [List.getD_eq_getElem?_getD, List.getElem?_eq_getElem h]; exact List.getElem_mem h
theorem Bd.at {b : Int} {ns : List Int} (h : Bd b ns) {i : Nat} (hi : i < ns.length) : -b ≤ ns.getD i 0 ∧ ns.getD i 0 ≤ b := h _ (getD_mem hi)
theorem sq_le {x b : Int} (h1 : -b ≤ x) (h2 : x ≤ b) : x * x ≤ b * b := by
  rcases Int.le_total 0 x with h | h
  · exact Int.mul_le_mul h2 h2 h (by omega)
  · have := Int.mul_le_mul (show -x ≤ b by omega) (show -x ≤ b by omega) (show 0 ≤ -x by omega) (show 0 ≤ b by omega)
    rw [Int.neg_mul_neg] at this; exact this
theorem distZ_le {b : Int} : ∀ {xs ys : List Int}, Bd b xs → Bd b ys → distZ xs ys ≤ xs.length * (4 * (b * b))
  | [], _, _, _ => by simp [distZ]
  | x :: xs, [], _, _ => by
    have := sq_nn b
    show (0 : Int) ≤ _
    exact Int.mul_nonneg (Int.natCast_nonneg _) (by omega)
  | x :: xs, y :: ys, h1, h2 => by
    have ih := distZ_le (b := b) (fun z hz => h1 z (List.mem_cons_of_mem _ hz)) (fun z hz => h2 z (List.mem_cons_of_mem _ hz)) (xs := xs) (ys := ys)
    have a := h1 x List.mem_cons_self
    have c := h2 y List.mem_cons_self
    have e := sq_le (x := x - y) (b := 2 * b) (by omega) (by omega)
    have e2 : 2 * b * (2 * b) = 4 * (b * b) := by rw [Int.mul_assoc, Int.mul_left_comm b 2 b, ← Int.mul_assoc]; rfl
    show (x - y) * (x - y) + distZ xs ys ≤ ((xs.length + 1 : Nat) : Int) * (4 * (b * b))
    rw [Int.natCast_add, Int.add_mul]
    generalize (xs.length : Int) * (4 * (b * b)) = u at *
    generalize b * b = v at *
    omega
/-- the quadratic form of two vectors -/
theorem quad : ∀ (a b : List Int) (l m : Int), a.length = b.length → 0 ≤ l * l * innerZ a a + 2 * (l * m) * innerZ a b + m * m * innerZ b b
  | [], [], l, m, _ => by show 0 ≤ l * l * 0 + 2 * (l * m) * 0 + m * m * 0; simp
  | [], _ :: _, _, _, h => by cases h
  | _ :: _, [], _, _, h => by cases h
  | x :: a, y :: b, l, m, h => by
    have ih := quad a b l m (by simpa using h)
    have s := sq_nn (l * x + m * y)
    show 0 ≤ l * l * (x * x + innerZ a a) + 2 * (l * m) * (x * y + innerZ a b) + m * m * (y * y + innerZ b b)
    have e : (l * x + m * y) * (l * x + m * y) = l * l * (x * x) + 2 * (l * m) * (x * y) + m * m * (y * y) := by
      have e1 : l * x * (l * x) = l * l * (x * x) := by ac_rfl
      have e2 : l * x * (m * y) = l * m * (x * y) := by ac_rfl
      have e3 : m * y * (l * x) = l * m * (x * y) := by ac_rfl
      have e4 : m * y * (m * y) = m * m * (y * y) := by ac_rfl
      rw [Int.add_mul, Int.mul_add, Int.mul_add, e1, e2, e3, e4, Int.mul_assoc 2]
      omega
    rw [e] at s
    simp only [Int.mul_add]
    omega
theorem inner_sq_nn : ∀ a : List Int, 0 ≤ innerZ a a
  | [] => Int.le_refl 0
  | x :: a => Int.add_nonneg (sq_nn x) (inner_sq_nn a)
/-- Cauchy, Schwarz -/
theorem cauchy {a b : List Int} (h : a.length = b.length) : innerZ a b * innerZ a b ≤ innerZ a a * innerZ b b := by
  have hA := inner_sq_nn a
  have hB := inner_sq_nn b
  have q1 := quad a b (innerZ b b) (-innerZ a b) h
  have q2 := quad a b (innerZ a b) (-(innerZ a a + 1)) h
  generalize innerZ a a = A at *
  generalize innerZ b b = B at *
  generalize innerZ a b = S at *
  rcases Int.lt_or_le 0 B with z | z
  · have e : B * B * A + 2 * (B * -S) * S + -S * -S * B = B * (A * B - S * S) := by
      have e1 : B * B * A = B * (A * B) := by ac_rfl
      have e2 : 2 * (B * -S) * S = -(2 * (B * (S * S))) := by
        rw [Int.mul_neg, Int.mul_neg, Int.neg_mul]; congr 1; ac_rfl
      have e3 : -S * -S * B = B * (S * S) := by rw [Int.neg_mul_neg]; ac_rfl
      rw [e1, e2, e3, Int.mul_sub]; omega
    rw [e] at q1
    have : 0 ≤ A * B - S * S := by
      rcases Int.lt_or_le (A * B - S * S) 0 with n | n
      · have := Int.mul_neg_of_pos_of_neg z n
        omega
      · exact n
    omega
  · have hB0 : B = 0 := by omega
    subst hB0
    have e : S * S * A + 2 * (S * -(A + 1)) * S + -(A + 1) * -(A + 1) * 0 = -(S * S * (A + 2)) := by
      have e1 : 2 * (S * -(A + 1)) * S = -(2 * (S * S * (A + 1))) := by
        rw [Int.mul_neg, Int.mul_neg, Int.neg_mul]; congr 1; ac_rfl
      rw [e1, Int.mul_zero]; simp only [Int.mul_add]; omega
    rw [e] at q2
    have s0 := sq_nn S
    rw [Int.mul_zero]
    rcases Int.lt_or_le 0 (S * S) with n | n
    · have := Int.mul_pos n (show 0 < A + 2 by omega)
      omega
    · exact n
/-- the distances of three points -/
theorem dist3 : ∀ (a b c : List Int), a.length = b.length → b.length = c.length → ∃ x y : List Int, x.length = y.length ∧ distZ a b = innerZ x x ∧ distZ b c = innerZ y y ∧ distZ a c = innerZ x x + innerZ y y + 2 * innerZ x y
  | [], [], [], _, _ => ⟨[], [], rfl, rfl, rfl, rfl⟩
  | u :: a, v :: b, w :: c, h1, h2 => by
    obtain ⟨x, y, e0, e1, e2, e3⟩ := dist3 a b c (by simpa using h1) (by simpa using h2)
    refine ⟨(u - v) :: x, (v - w) :: y, by simp [e0], ?_, ?_, ?_⟩
    · show _ + _ = _ + _; rw [e1]
    · show _ + _ = _ + _; rw [e2]
    · show (u - w) * (u - w) + distZ a c = ((u - v) * (u - v) + innerZ x x) + ((v - w) * (v - w) + innerZ y y) + 2 * ((u - v) * (v - w) + innerZ x y)
      rw [e3, show u - w = (u - v) + (v - w) by omega]
      generalize u - v = p
      generalize v - w = q
      simp only [Int.add_mul, Int.mul_add, Int.mul_comm q p]
      omega
  | [], [], _ :: _, _, h => by cases h
  | [], _ :: _, _, h, _ => by cases h
  | _ :: _, [], _, h, _ => by cases h
  | _ :: _, _ :: _, [], _, h => by cases h
/-- the heart of the gap: with A, B, C the three distances -/
theorem gap_core {A B C far near : Int} (hC : 0 ≤ C) (hB : 0 ≤ B) (h4 : (C - A - B) * (C - A - B) ≤ 4 * (A * B)) (h1 : far ≤ A) (h2 : B ≤ near) (h3 : near < far) (t : 0 < far + near - C) :
    (far + near - C) * (far + near - C) ≤ 4 * (far * near) := by
  have id : ∀ u v : Int, 4 * (u * v) - (u + v - C) * (u + v - C) = 2 * (C * (u + v)) - (u - v) * (u - v) - C * C := fun u v => by
    simp only [Int.add_mul, Int.sub_mul, Int.mul_add, Int.mul_sub, Int.mul_comm v u, Int.mul_comm C u, Int.mul_comm C v]; omega
  have hAB : 0 ≤ 2 * (C * (A + B)) - (A - B) * (A - B) - C * C := by
    rw [← id A B]
    have : (C - A - B) * (C - A - B) = (A + B - C) * (A + B - C) := by
      rw [show C - A - B = -(A + B - C) by omega, Int.neg_mul_neg]
    omega
  have hn : 0 ≤ near := by omega
  have goal : 0 ≤ 2 * (C * (far + near)) - (far - near) * (far - near) - C * C := by
    rcases Int.lt_or_le C (far - near) with c | c
    · -- far from it: first from B to near, then from A to far
      have s1 : 0 ≤ 2 * (C * (A + near)) - (A - near) * (A - near) - C * C := by
        have m := Int.mul_nonneg (show 0 ≤ near - B by omega) (show 0 ≤ 2 * A - B - near + 2 * C by omega)
        have e : (near - B) * (2 * A - B - near + 2 * C) = (2 * (C * (A + near)) - (A - near) * (A - near)) - (2 * (C * (A + B)) - (A - B) * (A - B)) := by
          simp only [Int.add_mul, Int.sub_mul, Int.mul_add, Int.mul_sub, Int.mul_comm near A, Int.mul_comm B A, Int.mul_comm near B, Int.mul_comm C A, Int.mul_comm C B, Int.mul_comm C near, Int.mul_left_comm near 2, Int.mul_left_comm B 2]; omega
        omega
      have m := Int.mul_nonneg (show 0 ≤ A - far by omega) (show 0 ≤ A + far - 2 * near - 2 * C by omega)
      have e : (A - far) * (A + far - 2 * near - 2 * C) = (2 * (C * (far + near)) - (far - near) * (far - near)) - (2 * (C * (A + near)) - (A - near) * (A - near)) := by
        simp only [Int.add_mul, Int.sub_mul, Int.mul_add, Int.mul_sub, Int.mul_comm near A, Int.mul_comm far A, Int.mul_comm near far, Int.mul_comm C A, Int.mul_comm C far, Int.mul_comm C near, Int.mul_left_comm A 2, Int.mul_left_comm far 2]; omega
      omega
    · have m1 := Int.mul_nonneg hC (show 0 ≤ far + 3 * near - C by omega)
      have m2 := Int.mul_nonneg (show 0 ≤ far - near by omega) (show 0 ≤ C - (far - near) by omega)
      have e1 : C * (far + 3 * near - C) = 2 * (C * (far + near)) - C * (far - near) - C * C := by
        simp only [Int.mul_add, Int.mul_sub, Int.mul_left_comm C 3]; omega
      have e2 : (far - near) * (C - (far - near)) = C * (far - near) - (far - near) * (far - near) := by
        rw [Int.mul_sub, Int.mul_comm (far - near) C]
      omega
  have := id far near
  omega
theorem le_root {t n : Int} (h0 : 0 ≤ t) (h : t * t ≤ n) : t ≤ rootZ n := by
  obtain ⟨s1, s2⟩ := rootZ_spec (Int.le_trans (Int.mul_nonneg h0 h0) h)
  have := sq_lt h0 (show 0 ≤ rootZ n + 1 by have := rootZ_nn n; omega) (Int.lt_of_le_of_lt h s2)
  omega
theorem root_le {t n : Int} (h0 : 0 ≤ t) (hn : 0 ≤ n) (h : n ≤ t * t) : rootZ n ≤ t := by
  obtain ⟨s1, s2⟩ := rootZ_spec hn
  rcases Int.lt_or_le t (rootZ n) with z | z
  · have := Int.mul_lt_mul z (Int.le_of_lt z)
    exfalso
    have h3 : t * t < rootZ n * rootZ n := by
      have a := Int.mul_le_mul_of_nonneg_left (Int.le_of_lt z) h0
      have b := Int.mul_lt_mul_of_pos_right z (show 0 < rootZ n by omega)
      omega
    omega
  · exact z
theorem gap_nn {far near : Int} (h : 0 ≤ near) : 0 ≤ gapZ far near := by
  unfold gapZ
  split
  · exact Int.le_refl 0
  · rename_i h1
    have hf : 0 ≤ far := by omega
    have e : 4 * far * near = 4 * (far * near) := Int.mul_assoc _ _ _
    have p := Int.mul_nonneg hf h
    have : rootZ (4 * far * near) ≤ far + near := by
      refine root_le (by omega) (by omega) ?_
      have s := sq_nn (far - near)
      have e2 : (far + near) * (far + near) = (far - near) * (far - near) + 4 * (far * near) := by
        simp only [Int.add_mul, Int.sub_mul, Int.mul_add, Int.mul_sub, Int.mul_comm near far]; omega
      omega
    omega
theorem gap_safe {a b c : List Int} {far near : Int} (e1 : a.length = b.length) (e2 : b.length = c.length) (h1 : far ≤ distZ a b) (h2 : distZ b c ≤ near) : gapZ far near ≤ distZ a c := by
  have hC := distZ_nn a c
  have hB := distZ_nn b c
  unfold gapZ
  split
  · exact hC
  · rename_i h3
    obtain ⟨x, y, e0, eA, eB, eC⟩ := dist3 a b c e1 e2
    have cs := cauchy e0
    have e : 4 * far * near = 4 * (far * near) := Int.mul_assoc _ _ _
    have p := Int.mul_nonneg (show 0 ≤ far by omega) (show 0 ≤ near by omega)
    rcases Int.lt_or_le 0 (far + near - distZ a c) with t | t
    · have g := gap_core (A := distZ a b) (B := distZ b c) hC hB (by
        rw [eA, eB, eC]
        generalize innerZ x x = A at *
        generalize innerZ y y = B at *
        generalize innerZ x y = S at *
        rw [show A + B + 2 * S - A - B = 2 * S by omega]
        have : 2 * S * (2 * S) = 4 * (S * S) := by rw [Int.mul_assoc, Int.mul_left_comm S 2 S, ← Int.mul_assoc]; rfl
        omega) h1 h2 (by omega) t
      have := le_root (t := far + near - distZ a c) (n := 4 * far * near) (by omega) (by omega)
      omega
    · have := rootZ_nn (4 * far * near)
      omega

/-! ### data of ints -/
def dInts (ns : List Int) : List PyData := ns.map PyData.int
theorem dp_ints {K : PySem.W.Frag} {H : Hp} : ∀ ns : List Int, DpAll K H (ns.map V.int) (dInts ns)
  | [] => .nil
  | n :: ns => .cons (.int n) (dp_ints ns)
theorem lay_ints : ∀ ns : List Int, PyData.canLayAll0 (dInts ns) = true
  | [] => by simp only [dInts, List.map_nil, PyData.canLayAll0]
  | n :: ns => by
    have ih := lay_ints ns
    simp only [dInts, List.map_cons, PyData.canLayAll0, PyData.canLay0, Bool.true_and] at ih ⊢
    exact ih
theorem dep_ints : ∀ ns : List Int, PyData.depthAll (dInts ns) ≤ 1
  | [] => by simp only [dInts, List.map_nil, PyData.depthAll]; omega
  | n :: ns => by
    have ih := dep_ints ns
    simp only [dInts, List.map_cons, PyData.depthAll, PyData.depth] at ih ⊢
    omega
theorem shp_ints (ns : List Int) : SeqAt.shaped (.list (dInts ns)) = true := by
  unfold SeqAt.shaped
  rw [Bool.and_eq_true, decide_eq_true_eq]
  refine ⟨?_, ?_⟩
  · simp only [PyData.canLay0]; exact lay_ints ns
  · have := dep_ints ns
    simp only [PyData.depth]; omega
theorem shp_intsT (ns : List Int) : SeqAt.shaped (.tuple (dInts ns)) = true := by
  unfold SeqAt.shaped
  rw [Bool.and_eq_true, decide_eq_true_eq]
  refine ⟨?_, ?_⟩
  · simp only [PyData.canLay0]; exact lay_ints ns
  · have := dep_ints ns
    simp only [PyData.depth]; omega
theorem eqv_intsA : ∀ a b : List Int, PyData.eqvAll (dInts a) (dInts b) = decide (a = b)
  | [], [] => by simp only [dInts, List.map_nil, PyData.eqvAll]; rfl
  | [], _ :: _ => by simp only [dInts, List.map_nil, List.map_cons, PyData.eqvAll]; rfl
  | _ :: _, [] => by simp only [dInts, List.map_nil, List.map_cons, PyData.eqvAll]; rfl
  | x :: a, y :: b => by
    have ih := eqv_intsA a b
    simp only [dInts, List.map_cons, PyData.eqvAll, PyData.eqv] at ih ⊢
    rw [ih, Bool.eq_iff_iff]; simp
theorem eqv_ints (a b : List Int) : PyData.eqv (.list (dInts a)) (.list (dInts b)) = decide (a = b) := by
  simp only [PyData.eqv]; exact eqv_intsA a b
theorem z_neInts {K : PySem.W.Frag} {H : Hp} {Q : VK} {p r : Addr} {a b : List Int} (h1 : SqL K H p (a.map V.int)) (h2 : SqL K H r (b.map V.int)) (k : Q (.bl (!decide (a = b))) H) : uNe K (.ref p) (.ref r) H Q :=
  z_neD (.lst h1 (dp_ints a)) (.lst h2 (dp_ints b)) (shp_ints a) (shp_ints b) (by rw [eqv_ints]; exact k)
theorem z_eqInts {K : PySem.W.Frag} {H : Hp} {Q : VK} {p r : Addr} {a b : List Int} (h1 : SqL K H p (a.map V.int)) (h2 : SqL K H r (b.map V.int)) (k : Q (.bl (decide (a = b))) H) : uEq K (.ref p) (.ref r) H Q :=
  z_eqD (.lst h1 (dp_ints a)) (.lst h2 (dp_ints b)) (shp_ints a) (shp_ints b) (by rw [eqv_ints]; exact k)

/-! ### objects while they are made -/
/-- all but p stays -/
def SameB (p : Addr) (H H' : Hp) : Prop := ∀ a o, a ≠ p → H a = some o → H' a = some o
theorem SameB.refl (p : Addr) (H : Hp) : SameB p H H := fun _ _ _ e => e
theorem SameB.same {p : Addr} {H H1 H2 : Hp} (s : SameB p H H1) (t : Same H1 H2) : SameB p H H2 := fun a o n e => t _ _ (s a o n e)
theorem SameB.put {p : Addr} {H H1 : Hp} {o : HO} (s : SameB p H H1) : SameB p H (upd H1 p o) := fun a u n e => lk_ne n (s a u n e)
theorem SameB.new {p q : Addr} {H H1 : Hp} {o : HO} (h : H1 q = none) (s : SameB p H H1) : SameB p H (upd H1 q o) := fun a u n e => lk_new h (s a u n e)
theorem SameB.putN {p q : Addr} {H H1 : Hp} {o : HO} (h : H q = none) (s : SameB p H H1) : SameB p H (upd H1 q o) := fun a u n e => lk_ne (ne_of_none e h) (s a u n e)
theorem SameB.out {p dx : Addr} {H H' : Hp} {o1 o2 : HO} (h1 : H p = none) (h2 : H dx = none) (s : SameB p (upd (upd H dx o1) p o2) H') : Same H H' := fun a o e => s a o (ne_of_none e h1) (lk_ne (ne_of_none e h1) (lk_ne (ne_of_none e h2) e))
theorem SqL.putI {K : PySem.W.Frag} {H : Hp} {p a C dx : Addr} {fs : List (Str × V)} {xs : List V} {o : HO} (hp : H p = some (.ins C dx fs)) (h : SqL K H a xs) : SqL K (upd H p o) a xs := by
  rcases h with (e | ⟨u, e⟩) | e
  · exact .inl (.inl (lk_df e hp (fun z => by cases z)))
  · exact .inl (.inr ⟨u, lk_df e hp (fun z => by cases z)⟩)
  · exact .inr e
theorem SqT.putI {K : PySem.W.Frag} {H : Hp} {p a C dx : Addr} {fs : List (Str × V)} {xs : List V} {o : HO} (hp : H p = some (.ins C dx fs)) (h : SqT K H a xs) : SqT K (upd H p o) a xs := by
  rcases h with (e | ⟨u, e⟩) | e
  · exact .inl (.inl (lk_df e hp (fun z => by cases z)))
  · exact .inl (.inr ⟨u, lk_df e hp (fun z => by cases z)⟩)
  · exact .inr e
/-- a list or a tuple -/
def SqA (K : PySem.W.Frag) (H : Hp) (a : Addr) (xs : List V) : Prop := SqL K H a xs ∨ SqT K H a xs
theorem SqA.same {K : PySem.W.Frag} {H H' : Hp} {a : Addr} {xs : List V} (s : Same H H') (h : SqA K H a xs) : SqA K H' a xs := h.imp (Same.seq s) (Same.sqT s)
theorem SqA.putI {K : PySem.W.Frag} {H : Hp} {p a C dx : Addr} {fs : List (Str × V)} {xs : List V} {o : HO} (hp : H p = some (.ins C dx fs)) (h : SqA K H a xs) : SqA K (upd H p o) a xs := h.imp (SqL.putI hp) (SqT.putI hp)
theorem z_tupleA {K : PySem.W.Frag} {H : Hp} {Q : VK} {a : Addr} {xs : List V} (h : SqA K H a xs) (k : ∀ t H', Same H H' → SqT K H' t xs → Q (.ref t) H') : uTuple K [.ref a] H Q := by
  rcases h with h | h
  · exact z_tupleL h fun t ht => k t _ (Same.new ht (Same.refl H)) (SqT.of upd_same)
  · exact z_tupleT h (k a H (Same.refl H) h)
/-! ### pairs, given and kept -/
abbrev PairAt (K : PySem.W.Frag) (H : Hp) (q : Addr) (x : V × V) : Prop := SqT K H q [x.1, x.2]
def PairsA (K : PySem.W.Frag) (H : Hp) (a : Addr) (l : List (V × V)) : Prop := ∃ ps : List Addr, SqA K H a (ps.map V.ref) ∧ All2 (PairAt K H) ps l
def PairsT (K : PySem.W.Frag) (H : Hp) (a : Addr) (l : List (V × V)) : Prop := ∃ ps : List Addr, SqT K H a (ps.map V.ref) ∧ All2 (PairAt K H) ps l
theorem PairsA.same {K : PySem.W.Frag} {H H' : Hp} {a : Addr} {l : List (V × V)} (s : Same H H') (h : PairsA K H a l) : PairsA K H' a l := ⟨h.choose, h.choose_spec.1.same s, All2.imp (fun _ _ e => Same.sqT s e) h.choose_spec.2⟩
theorem PairsT.same {K : PySem.W.Frag} {H H' : Hp} {a : Addr} {l : List (V × V)} (s : Same H H') (h : PairsT K H a l) : PairsT K H' a l := ⟨h.choose, Same.sqT s h.choose_spec.1, All2.imp (fun _ _ e => Same.sqT s e) h.choose_spec.2⟩
theorem PairsA.putI {K : PySem.W.Frag} {H : Hp} {p a C dx : Addr} {fs : List (Str × V)} {l : List (V × V)} {o : HO} (hp : H p = some (.ins C dx fs)) (h : PairsA K H a l) : PairsA K (upd H p o) a l := ⟨h.choose, h.choose_spec.1.putI hp, All2.imp (fun _ _ e => SqT.putI hp e) h.choose_spec.2⟩
theorem PairsT.putI {K : PySem.W.Frag} {H : Hp} {p a C dx : Addr} {fs : List (Str × V)} {l : List (V × V)} {o : HO} (hp : H p = some (.ins C dx fs)) (h : PairsT K H a l) : PairsT K (upd H p o) a l := ⟨h.choose, SqT.putI hp h.choose_spec.1, All2.imp (fun _ _ e => SqT.putI hp e) h.choose_spec.2⟩
theorem PairsA.e {K : PySem.W.Frag} {H : Hp} {a : Addr} (h : SqT K H a []) : PairsA K H a [] := ⟨[], .inr h, .nil⟩
/-- [(x, y) for x, y in pairs] -/
theorem z_lcPairs {K : PySem.W.Frag} {a : Addr} {l : List (V × V)} {σ : L2.St} {u v : Nat} {H : Hp} {Q : VK} (e : PairsA K H a l) (hn : l.length ≤ 1000) (hu : u < σ.length) (hv : v < σ.length) (huv : u ≠ v)
    (q : ∀ (r : Addr) H', H r = none → Same H H' → (∃ ps : List Addr, H' r = some (.lst (ps.map V.ref)) ∧ All2 (PairAt K H') ps l) → Q (.ref r) H') :
    zLcS K (gTup K 2 (gCons (gName u) (gCons (gName v) gNil))) tYes (tTup (tCons (tVar u) (tCons (tVar v) tNil))) [u, v] σ (.ref a) H Q := by
  obtain ⟨ps, e, r⟩ := e
  have hl := All2.len r
  have wp : ∀ x y : Option V, wipe (((wipe σ [u, v]).set u x).set v y) [u, v] = wipe σ [u, v] := fun x y => by
    show ((((((σ.set v none).set u none).set u x).set v y).set v none).set u none) = (σ.set v none).set u none
    rw [List.set_set, List.set_set, List.set_comm _ _ huv, List.set_set, List.set_set]
  have vu : ∀ x y : V, (((wipe σ [u, v]).set u (some x)).set v (some y))[u]? = some (some x) := fun x y => by
    show ((((σ.set v none).set u none).set u (some x)).set v (some y))[u]? = _
    rw [List.getElem?_set_ne huv.symm, List.getElem?_set_self (by simpa using hu)]
  have vv : ∀ x y : V, (((wipe σ [u, v]).set u (some x)).set v (some y))[v]? = some (some y) := fun x y => by
    show ((((σ.set v none).set u none).set u (some x)).set v (some y))[v]? = _
    rw [List.getElem?_set_self (by simpa using hv)]
  have turn : ∀ (C : Addr) (i : Nat) (x : V) (H' : Hp), H C = none → (ps.map V.ref)[i]? = some x → (Same H H' ∧ ∃ ms : List Addr, H' C = some (.lst (ms.map V.ref)) ∧ All2 (PairAt K H') ms (l.take i)) →
      gTup K 2 (gCons (gName u) (gCons (gName v) gNil)) x (wipe σ [u, v]) H' fun σ2 H2 => wipe σ2 [u, v] = wipe σ [u, v] ∧ tYes σ2 H2 fun b H3 =>
        if b = true then tTup (tCons (tVar u) (tCons (tVar v) tNil)) σ2 H3 fun y H4 => ∃ acc, H4 C = some (.lst acc) ∧ acc.length < sizeLine ∧ (Same H (upd H4 C (.lst (acc ++ [y]))) ∧ ∃ ms : List Addr, upd H4 C (.lst (acc ++ [y])) C = some (.lst (ms.map V.ref)) ∧ All2 (PairAt K (upd H4 C (.lst (acc ++ [y])))) ms (l.take (i + 1))) else (Same H H3 ∧ ∃ ms : List Addr, H3 C = some (.lst (ms.map V.ref)) ∧ All2 (PairAt K H3) ms (l.take (i + 1))) := by
    rintro C i x H' hC hx ⟨s, ms, eC, rm⟩
    obtain ⟨hi, rfl⟩ := map_ref hx
    have hi2 : i < l.length := by omega
    have lm := All2.len rm
    refine z_gTup2 (Same.sqT s (All2.atD r 0 (V.non, V.non) hi2)) ?_
    refine ⟨wp _ _, ?_⟩
    refine z_yes ?_
    rw [if_pos rfl]
    refine z_tup (z_cons (z_var (vu _ _) (z_cons (z_var (vv _ _) (z_nil ?_)))))
    refine z_newT (by simp) fun t ht => ?_
    refine z_accum (lk_new ht eC) (by rw [List.length_map, lm, List.length_take]; omega) ?_
    refine ⟨Same.put hC (Same.new ht s), ms ++ [t], by rw [upd_same, ref_app], ?_⟩
    rw [take_dS (V.non, V.non) hi2]
    have eC2 := lk_new (o := .tup [(l.getD i (V.non, V.non)).1, (l.getD i (V.non, V.non)).2]) ht eC
    have put : ∀ {q : Addr} {xs : List V}, SqT K (upd H' t (.tup [(l.getD i (V.non, V.non)).1, (l.getD i (V.non, V.non)).2])) q xs → SqT K (upd (upd H' t (.tup [(l.getD i (V.non, V.non)).1, (l.getD i (V.non, V.non)).2])) C (.lst (ms.map V.ref ++ [.ref t]))) q xs := fun {q xs} h => by
      rcases h with (h | ⟨o, h⟩) | h
      · exact .inl (.inl (lk_df h eC2 (fun z => by cases z)))
      · exact .inl (.inr ⟨o, lk_df h eC2 (fun z => by cases z)⟩)
      · exact .inr h
    exact (All2.imp (fun _ _ h => put (sqT_new ht h)) rm).app (put (SqT.of upd_same))
  have fin : ∀ (C : Addr) (H' : Hp), H C = none → (Same H H' ∧ ∃ ms : List Addr, H' C = some (.lst (ms.map V.ref)) ∧ All2 (PairAt K H') ms (l.take (ps.map V.ref).length)) → Q (.ref C) H' := by
    rintro C H' hC ⟨s, ms, eC, rm⟩
    rw [List.length_map, hl, List.take_length] at rm
    exact q C H' hC s ⟨ms, eC, rm⟩
  have st : ∀ C, H C = none → (Same H (upd H C (.lst [])) ∧ ∃ ms : List Addr, upd H C (.lst []) C = some (.lst (ms.map V.ref)) ∧ All2 (PairAt K (upd H C (.lst []))) ms (l.take 0)) := fun C hC => ⟨Same.new hC (Same.refl H), [], upd_same, .nil⟩
  rcases e with e | e
  · exact z_lcl e (fun C i H' => Same H H' ∧ ∃ ms : List Addr, H' C = some (.lst (ms.map V.ref)) ∧ All2 (PairAt K H') ms (l.take i)) st (fun C i H' _ _ z => Same.seq z.1 e) turn fin
  · exact z_lct e (fun C i H' => Same H H' ∧ ∃ ms : List Addr, H' C = some (.lst (ms.map V.ref)) ∧ All2 (PairAt K H') ms (l.take i)) st (fun C i H' _ _ z => Same.sqT z.1 e) turn fin
/-! ### records -/
abbrev recF (n : Str) (tv tf tw : Addr) : List (Str × V) := [("name", .str n), ("vector", .ref tv), ("fields", .ref tf), ("words", .ref tw)]
abbrev REC : List Str := ["name", "vector", "fields", "words"]
def RecAt (K : PySem.W.Frag) (c : CEnv) (H : Hp) (p : Addr) (n : Str) (xs : List Int) (fl ws : List (V × V)) : Prop := ∃ tv tf tw, InsAt K c H p "Record" (recF n tv tf tw) ∧ SqT K H tv (xs.map V.int) ∧ PairsT K H tf fl ∧ PairsT K H tw ws
theorem RecAt.same {K : PySem.W.Frag} {c : CEnv} {H H' : Hp} {p : Addr} {n : Str} {xs : List Int} {fl ws : List (V × V)} (s : Same H H') (h : RecAt K c H p n xs fl ws) : RecAt K c H' p n xs fl ws := by
  obtain ⟨tv, tf, tw, a, b, d, e⟩ := h
  exact ⟨tv, tf, tw, a.same s, Same.sqT s b, d.same s, e.same s⟩
abbrev N_Record_init : List Str := ["self", "name", "vector", "fields", "words", "field", "worth", "word", "count"]
-- Record.__init__(self, name, vector, fields, words): slots 0:self 1:name 2:vector 3:fields 4:words 5:field 6:worth 7:word 8:count
def T_Record_init (K : PySem.W.Frag) : TS :=
    (tSeq (sFld K (tVar 0) (tVar 1) "name")
    (tSeq (sFld K (tVar 0) (tCB (uTuple K) (tCons (tVar 2) tNil)) "vector")
    (tSeq (sFld K (tVar 0) (tCB (uTuple K) (tCons (tLc (iSq K (tVar 3)) (gTup K 2 (gCons (gName 5) (gCons (gName 6) gNil))) tYes (tTup (tCons (tVar 5) (tCons (tVar 6) tNil))) [5, 6]) tNil)) "fields")
    (sFld K (tVar 0) (tCB (uTuple K) (tCons (tLc (iSq K (tVar 4)) (gTup K 2 (gCons (gName 7) (gCons (gName 8) gNil))) tYes (tTup (tCons (tVar 7) (tCons (tVar 8) tNil))) [7, 8]) tNil)) "words"))))

def sp_Record_init (K : PySem.W.Frag) (c : CEnv) : Sp := fun vs H Q _ => ∃ (p dx v f w : Addr) (n : Str) (xs : List Int) (fl ws : List (V × V)), vs = [.ref p, .str n, .ref v, .ref f, .ref w] ∧ ClsOk K c "Record" ["name", "vector", "fields", "words"] ∧ H p = some (.ins (c.cls "Record") dx []) ∧ SqA K H v (xs.map V.int) ∧ PairsA K H f fl ∧ PairsA K H w ws ∧ fl.length ≤ 1000 ∧ ws.length ≤ 1000 ∧
  ∀ H', SameB p H H' → RecAt K c H' p n xs fl ws → Q .non H'
theorem Record_init_c {K : PySem.W.Frag} {c : CEnv} {p dx v f w : Addr} {n : Str} {xs : List Int} {fl ws : List (V × V)} {H : Hp} {Q : VK} {E : XK} (ok : ClsOk K c "Record" ["name", "vector", "fields", "words"]) (hp : H p = some (.ins (c.cls "Record") dx [])) (hv : SqA K H v (xs.map V.int)) (hf : PairsA K H f fl) (hw : PairsA K H w ws) (lf : fl.length ≤ 1000) (lw : ws.length ≤ 1000)
    (q : ∀ H', SameB p H H' → RecAt K c H' p n xs fl ws → Q .non H') : sp_Record_init K c [.ref p, .str n, .ref v, .ref f, .ref w] H Q E := ⟨p, dx, v, f, w, n, xs, fl, ws, rfl, ok, hp, hv, hf, hw, lf, lw, q⟩
theorem w_Record_init {K : PySem.W.Frag} {c : CEnv} : Wd (T_Record_init K) N_Record_init 5 (sp_Record_init K c) := fun vs H Q E h => by
  obtain ⟨p, dx, v, f, w, n, xs, fl, ws, rfl, ok, hp, hv, hf, hw, lf, lw, q⟩ := h
  refine ⟨rfl, ?_⟩
  show T_Record_init K _ [some (.ref p), some (.str n), some (.ref v), some (.ref f), some (.ref w), none, none, none, none] H
  unfold T_Record_init
  have s1 := (SameB.refl p H).put (o := .ins (c.cls "Record") dx [("name", .str n)])
  have hv1 := hv.putI (o := .ins (c.cls "Record") dx [("name", .str n)]) hp
  have hf1 := hf.putI (o := .ins (c.cls "Record") dx [("name", .str n)]) hp
  have hw1 := hw.putI (o := .ins (c.cls "Record") dx [("name", .str n)]) hp
  walk_at "zz"
  rw [show putF "name" (V.str n) ([] : List (Str × V)) = ([("name", .str n)] : List (Str × V)) from rfl]
  have e1 : upd H p (.ins (c.cls "Record") dx [("name", .str n)]) p = some (.ins (c.cls "Record") dx [("name", .str n)]) := upd_same
  generalize upd H p (.ins (c.cls "Record") dx [("name", .str n)]) = H1 at *
  refine z_tupleA hv1 fun t H2 s2 et => ?_
  have e2 := s2 _ _ e1
  have b2 := SameB.same s1 s2
  have hf2 := hf1.same s2
  have hw2 := hw1.same s2
  walk_at "zz"
  have b3 := b2.put (o := .ins (c.cls "Record") dx [("name", .str n), ("vector", .ref t)])
  have et3 := SqT.putI (o := .ins (c.cls "Record") dx [("name", .str n), ("vector", .ref t)]) e2 et
  have hf3 := hf2.putI (o := .ins (c.cls "Record") dx [("name", .str n), ("vector", .ref t)]) e2
  have hw3 := hw2.putI (o := .ins (c.cls "Record") dx [("name", .str n), ("vector", .ref t)]) e2
  rw [show putF "vector" (V.ref t) ([("name", .str n)] : List (Str × V)) = ([("name", .str n), ("vector", .ref t)] : List (Str × V)) from rfl]
  have e3 : upd H2 p (.ins (c.cls "Record") dx [("name", .str n), ("vector", .ref t)]) p = some (.ins (c.cls "Record") dx [("name", .str n), ("vector", .ref t)]) := upd_same
  generalize upd H2 p (.ins (c.cls "Record") dx [("name", .str n), ("vector", .ref t)]) = H3 at *
  refine z_lcPairs hf3 lf (by walk_at "few") (by walk_at "few") (by decide) fun r H4 nr s4 hr => ?_
  obtain ⟨ps, er, rp⟩ := hr
  refine z_nil ?_
  refine z_tupleL (SqL.of er) fun u hu => ?_
  have s5 := Same.new (o := .tup (ps.map V.ref)) hu s4
  have ru5 : PairsT K (upd H4 u (.tup (ps.map V.ref))) u fl := ⟨ps, SqT.of upd_same, All2.imp (fun _ _ h => sqT_new hu h) rp⟩
  have e5 := s5 _ _ e3
  have b5 := SameB.same b3 s5
  have et5 := Same.sqT s5 et3
  have hw5 := hw3.same s5
  generalize upd H4 u (.tup (ps.map V.ref)) = H5 at *
  walk_at "zz"
  have b6 := b5.put (o := .ins (c.cls "Record") dx [("name", .str n), ("vector", .ref t), ("fields", .ref u)])
  have et6 := SqT.putI (o := .ins (c.cls "Record") dx [("name", .str n), ("vector", .ref t), ("fields", .ref u)]) e5 et5
  have ru6 := ru5.putI (o := .ins (c.cls "Record") dx [("name", .str n), ("vector", .ref t), ("fields", .ref u)]) e5
  have hw6 := hw5.putI (o := .ins (c.cls "Record") dx [("name", .str n), ("vector", .ref t), ("fields", .ref u)]) e5
  rw [show putF "fields" (V.ref u) ([("name", .str n), ("vector", .ref t)] : List (Str × V)) = ([("name", .str n), ("vector", .ref t), ("fields", .ref u)] : List (Str × V)) from rfl]
  have e6 : upd H5 p (.ins (c.cls "Record") dx [("name", .str n), ("vector", .ref t), ("fields", .ref u)]) p = some (.ins (c.cls "Record") dx [("name", .str n), ("vector", .ref t), ("fields", .ref u)]) := upd_same
  generalize upd H5 p (.ins (c.cls "Record") dx [("name", .str n), ("vector", .ref t), ("fields", .ref u)]) = H6 at *
  refine z_lcPairs hw6 lw (by walk_at "few") (by walk_at "few") (by decide) fun r2 H7 nr2 s7 hr2 => ?_
  obtain ⟨qs, er2, rq⟩ := hr2
  refine z_nil ?_
  refine z_tupleL (SqL.of er2) fun y hy => ?_
  have s8 := Same.new (o := .tup (qs.map V.ref)) hy s7
  have rw8 : PairsT K (upd H7 y (.tup (qs.map V.ref))) y ws := ⟨qs, SqT.of upd_same, All2.imp (fun _ _ h => sqT_new hy h) rq⟩
  have e8 := s8 _ _ e6
  have b8 := SameB.same b6 s8
  have et8 := Same.sqT s8 et6
  have ru8 := ru6.same s8
  generalize upd H7 y (.tup (qs.map V.ref)) = H8 at *
  walk_at "zz"
  refine q _ (b8.put) ⟨t, u, y, ⟨ok, dx, ?_⟩, SqT.putI e8 et8, ru8.putI e8, rw8.putI e8⟩
  rw [upd_same]; rfl

/-! ### data of any depth, as it stays -/
section
variable {K : PySem.W.Frag}
mutual
theorem Dp.same' {H H' : Hp} (s : Same H H') : ∀ (d : PyData) (v : V), Dp K H v d → Dp K H' v d
  | .none, _, h => by cases h; exact .non
  | .bool b, _, h => by cases h; exact .bl b
  | .int i, _, h => by cases h; exact .int i
  | .str x, _, h => by cases h; exact .str x
  | .list ds, _, h => by
    cases h with
    | lst hs ha => exact .lst (Same.seq s hs) (DpAll.same' s ds _ ha)
  | .tuple ds, _, h => by
    cases h with
    | tup hs ha => exact .tup (Same.sqT s hs) (DpAll.same' s ds _ ha)
  | .dict _, _, h => by cases h
theorem DpAll.same' {H H' : Hp} (s : Same H H') : ∀ (ds : List PyData) (vs : List V), DpAll K H vs ds → DpAll K H' vs ds
  | [], _, h => by cases h; exact .nil
  | d :: ds, _, h => by
    cases h with
    | cons h1 h2 => exact .cons (Dp.same' s d _ h1) (DpAll.same' s ds _ h2)
end
variable {H H' : Hp} {v w : V} {d e : PyData} {vs : List V} {ds : List PyData} {p q : Addr} {o : HO}
theorem dpS (s : Same H H') (h : Dp K H v d) : Dp K H' v d := Dp.same' s d v h
theorem dpsS (s : Same H H') (h : DpAll K H vs ds) : DpAll K H' vs ds := DpAll.same' s ds vs h
theorem dpL (h : Dp K H v (.list ds)) : ∃ a xs, v = .ref a ∧ SqL K H a xs ∧ DpAll K H xs ds := by
  cases h with
  | lst hs ha => exact ⟨_, _, rfl, hs, ha⟩
theorem dpT (h : Dp K H v (.tuple ds)) : ∃ a xs, v = .ref a ∧ SqT K H a xs ∧ DpAll K H xs ds := by
  cases h with
  | tup hs ha => exact ⟨_, _, rfl, hs, ha⟩
theorem dpN (h : Dp K H v .none) : v = .non := by cases h; rfl
theorem dpI {i : Int} (h : Dp K H v (.int i)) : v = .int i := by cases h; rfl
theorem dpX {x : Str} (h : Dp K H v (.str x)) : v = .str x := by cases h; rfl
theorem dpB {b : Bool} (h : Dp K H v (.bool b)) : v = .bl b := by cases h; rfl
theorem dps0 (h : DpAll K H vs []) : vs = [] := by cases h; rfl
theorem dpsC (h : DpAll K H vs (d :: ds)) : ∃ v ws, vs = v :: ws ∧ Dp K H v d ∧ DpAll K H ws ds := by
  cases h with
  | cons h1 h2 => exact ⟨_, _, rfl, h1, h2⟩
theorem dpsLen : ∀ {ds : List PyData} {vs : List V}, DpAll K H vs ds → vs.length = ds.length
  | [], _, h => by rw [dps0 h]; rfl
  | d :: ds, _, h => by obtain ⟨v, ws, rfl, _, h2⟩ := dpsC h; simp [dpsLen h2]
theorem dpsGet : ∀ {ds : List PyData} {vs : List V} {i : Nat}, DpAll K H vs ds → (e : PyData) → i < ds.length → ∃ v, vs[i]? = some v ∧ Dp K H v (ds.getD i e)
  | [], _, _, _, _, hi => absurd hi (Nat.not_lt_zero _)
  | d :: ds, _, i, h, e, hi => by
    obtain ⟨v, ws, rfl, h1, h2⟩ := dpsC h
    cases i with
    | zero => exact ⟨v, rfl, h1⟩
    | succ i => obtain ⟨u, a, b⟩ := dpsGet h2 e (by simpa using hi); exact ⟨u, a, b⟩
theorem dpsApp : ∀ {ds : List PyData} {vs : List V}, DpAll K H vs ds → Dp K H v d → DpAll K H (vs ++ [v]) (ds ++ [d])
  | [], _, h, h1 => by rw [dps0 h]; exact .cons h1 .nil
  | _ :: _, _, h, h1 => by obtain ⟨u, ws, rfl, a, b⟩ := dpsC h; exact .cons a (dpsApp b h1)
theorem dpsTake : ∀ {ds : List PyData} {vs : List V} (k : Nat), DpAll K H vs ds → DpAll K H (vs.take k) (ds.take k)
  | [], _, k, h => by rw [dps0 h, List.take_nil, List.take_nil]; exact .nil
  | _ :: _, _, 0, _ => .nil
  | _ :: _, _, k + 1, h => by obtain ⟨u, ws, rfl, a, b⟩ := dpsC h; exact .cons a (dpsTake k b)
theorem dpsDrop : ∀ {ds : List PyData} {vs : List V} (k : Nat), DpAll K H vs ds → DpAll K H (vs.drop k) (ds.drop k)
  | [], _, k, h => by rw [dps0 h, List.drop_nil, List.drop_nil]; exact .nil
  | _ :: _, _, 0, h => h
  | _ :: _, _, k + 1, h => by obtain ⟨u, ws, rfl, a, b⟩ := dpsC h; exact dpsDrop k b
/-- integers, texts -/
abbrev diI (xs : List Int) : List PyData := xs.map PyData.int
abbrev diS (xs : List Str) : List PyData := xs.map PyData.str
theorem dpsI : ∀ {xs : List Int} {vs : List V}, DpAll K H vs (diI xs) → vs = xs.map V.int
  | [], _, h => dps0 h
  | x :: xs, _, h => by obtain ⟨v, ws, rfl, a, b⟩ := dpsC h; rw [dpI a, dpsI b]; rfl
theorem dpsS' : ∀ {xs : List Str} {vs : List V}, DpAll K H vs (diS xs) → vs = xs.map V.str
  | [], _, h => dps0 h
  | x :: xs, _, h => by obtain ⟨v, ws, rfl, a, b⟩ := dpsC h; rw [dpX a, dpsS' b]; rfl
theorem dpsI' : ∀ {xs : List Int}, DpAll K H (xs.map V.int) (diI xs)
  | [] => .nil
  | x :: xs => .cons (.int x) dpsI'
theorem dpsS'' : ∀ {xs : List Str}, DpAll K H (xs.map V.str) (diS xs)
  | [] => .nil
  | x :: xs => .cons (.str x) dpsS''
theorem dpTI {xs : List Int} (h : SqT K H p (xs.map V.int)) : Dp K H (.ref p) (.tuple (diI xs)) := .tup h dpsI'
theorem dpLI {xs : List Int} (h : SqL K H p (xs.map V.int)) : Dp K H (.ref p) (.list (diI xs)) := .lst h dpsI'
theorem dpTI' {xs : List Int} (h : Dp K H v (.tuple (diI xs))) : ∃ a, v = .ref a ∧ SqT K H a (xs.map V.int) := by
  obtain ⟨a, ys, rfl, e, r⟩ := dpT h
  exact ⟨a, rfl, dpsI r ▸ e⟩
theorem dpLI' {xs : List Int} (h : Dp K H v (.list (diI xs))) : ∃ a, v = .ref a ∧ SqL K H a (xs.map V.int) := by
  obtain ⟨a, ys, rfl, e, r⟩ := dpL h
  exact ⟨a, rfl, dpsI r ▸ e⟩
/-- an optional integer -/
def hV : Option Int → V | none => .non | some i => .int i
def hD : Option Int → PyData | none => .none | some i => .int i
theorem dpH {x : Option Int} (h : Dp K H v (hD x)) : v = hV x := by
  cases x with
  | none => exact dpN h
  | some i => exact dpI h
theorem dpH' : ∀ {x : Option Int}, Dp K H (hV x) (hD x)
  | none => .non
  | some i => .int i
theorem flat_hV (x : Option Int) : flatV (hV x) = true := by cases x <;> rfl
theorem z_eqH {a b : Option Int} {Q : VK} (k : Q (.bl (decide (a = b))) H) : uEq K (hV a) (hV b) H Q := by
  cases a with
  | none => cases b with
    | none => exact z_eqN k
    | some j => exact .inl ⟨rfl, by rw [decide_eq_false (by intro z; cases z)]; rw [decide_eq_false (by intro z; cases z)] at k; exact k⟩
  | some i => cases b with
    | none => exact .inl ⟨rfl, by rw [decide_eq_false (by intro z; cases z)]; rw [decide_eq_false (by intro z; cases z)] at k; exact k⟩
    | some j => refine z_eq ?_; rw [show decide (i = j) = decide (some i = some j) by simp]; exact k
end
/-! ### the heap without some of its places -/
open Classical in
noncomputable def hid (H : Hp) (ps : List Addr) : Hp := fun a => if a ∈ ps then none else H a
/-- each of these places is taken -/
def Occ (H : Hp) (ps : List Addr) : Prop := ∀ p ∈ ps, ∃ o, H p = some o
section
variable {K : PySem.W.Frag} {H H' : Hp} {p q : Addr} {o : HO} {ps qs : List Addr}
theorem hid_out {a : Addr} (h : a ∉ ps) : hid H ps a = H a := by unfold hid; rw [if_neg h]
theorem hid_in {a : Addr} (h : a ∈ ps) : hid H ps a = none := by unfold hid; rw [if_pos h]
theorem hid_nil : hid H [] = H := by funext a; exact hid_out (fun z => by cases z)
theorem hid_sub (h : ∀ a ∈ ps, a ∈ qs) : Same (hid H qs) (hid H ps) := fun a o e => by
  by_cases c : a ∈ qs
  · rw [hid_in c] at e; cases e
  · rw [hid_out c] at e; rw [hid_out fun z => c (h a z)]; exact e
theorem hid_le : Same (hid H ps) H := fun a o e => by
  by_cases c : a ∈ ps
  · rw [hid_in c] at e; cases e
  · rw [hid_out c] at e; exact e
theorem hid_same (s : Same H H') : Same (hid H ps) (hid H' ps) := fun a o e => by
  by_cases c : a ∈ ps
  · rw [hid_in c] at e; cases e
  · rw [hid_out c] at e ⊢; exact s a o e
theorem hid_lk {a : Addr} (h : a ∉ ps) (e : H a = some o) : hid H ps a = some o := by rw [hid_out h]; exact e
theorem hid_put (h : p ∈ ps) : hid (upd H p o) ps = hid H ps := by
  funext a
  by_cases c : a ∈ ps
  · rw [hid_in c, hid_in c]
  · rw [hid_out c, hid_out c]; exact upd_ne (fun z => c (z ▸ h))
theorem hid_free (h : H p = none) : Same (hid H ps) (hid H (p :: ps)) := fun a o e => by
  by_cases c : a ∈ ps
  · rw [hid_in c] at e; cases e
  · rw [hid_out c] at e
    refine hid_lk (fun z => ?_) e
    rcases List.mem_cons.mp z with z | z
    · subst z; rw [h] at e; cases e
    · exact c z
theorem hid_new (h : H q = none) : Same (hid H ps) (hid (upd H q o) ps) := hid_same (Same.new h (Same.refl H))
/-- what stood before p was made stays when p is hidden -/
theorem hid_of (h : H p = none) (s : Same (hid H ps) (hid H' ps)) : Same (hid H ps) (hid H' (p :: ps)) := fun a u e => by
  by_cases c : a ∈ ps
  · rw [hid_in c] at e; cases e
  · have e' := e
    rw [hid_out c] at e'
    have x := s a u e
    rw [hid_out c] at x
    refine hid_lk (fun z => ?_) x
    rcases List.mem_cons.mp z with z | z
    · subst z; rw [h] at e'; cases e'
    · exact c z
theorem hid_ofS (h : H p = none) (s : Same H H') : Same (hid H ps) (hid H' (p :: ps)) := hid_of h (hid_same s)
theorem hidS1 (h : H p = none) (s : Same H H') : Same H (hid H' [p]) := fun a u e => hid_lk (fun z => by rw [List.mem_singleton] at z; subst z; rw [h] at e; cases e) (s a u e)
theorem Occ.nil : Occ H [] := fun _ h => by cases h
theorem Occ.cons (h : H p = some o) (t : Occ H ps) : Occ H (p :: ps) := fun a ha => by
  rcases List.mem_cons.mp ha with rfl | ha
  · exact ⟨o, h⟩
  · exact t a ha
theorem Occ.same (s : Same H H') (h : Occ H ps) : Occ H' ps := fun a ha => (h a ha).imp fun _ e => s _ _ e
theorem Occ.put (h : Occ H ps) : Occ (upd H p o) ps := fun a ha => by
  by_cases c : a = p
  · subst c; exact ⟨o, upd_same⟩
  · obtain ⟨u, e⟩ := h a ha; exact ⟨u, lk_ne c e⟩
theorem Occ.no (h : Occ H ps) (hq : H q = none) : q ∉ ps := fun z => by obtain ⟨u, e⟩ := h q z; rw [hq] at e; cases e
theorem dp_newT {xs : List V} {ds : List PyData} (hq : H q = none) (oc : Occ H ps) (h : DpAll K (hid H ps) xs ds) : Dp K (hid (upd H q (.tup xs)) ps) (.ref q) (.tuple ds) :=
  .tup (SqT.of (hid_lk (oc.no hq) upd_same)) (dpsS (hid_new hq) h)
theorem dp_newL {xs : List V} {ds : List PyData} (hq : H q = none) (oc : Occ H ps) (h : DpAll K (hid H ps) xs ds) : Dp K (hid (upd H q (.lst xs)) ps) (.ref q) (.list ds) :=
  .lst (SqL.of (hid_lk (oc.no hq) upd_same)) (dpsS (hid_new hq) h)
theorem dp_nT {xs : List V} {ds : List PyData} (hq : H q = none) (h : DpAll K H xs ds) : Dp K (upd H q (.tup xs)) (.ref q) (.tuple ds) := .tup (SqT.of upd_same) (dpsS (Same.new hq (Same.refl H)) h)
theorem dp_nL {xs : List V} {ds : List PyData} (hq : H q = none) (h : DpAll K H xs ds) : Dp K (upd H q (.lst xs)) (.ref q) (.list ds) := .lst (SqL.of upd_same) (dpsS (Same.new hq (Same.refl H)) h)
/-- a list that may change, with items that stay -/
theorem dpO {xs : List V} {ds : List PyData} (h : H' q = some (.lst xs)) (hq : q ∉ ps) (e : DpAll K (hid H' (q :: ps)) xs ds) : Dp K (hid H' ps) (.ref q) (.list ds) := .lst (SqL.of (hid_lk hq h)) (dpsS (hid_sub fun a ha => List.mem_cons_of_mem _ ha) e)
theorem dpO0 {xs : List V} {ds : List PyData} (h : H' q = some (.lst xs)) (e : DpAll K (hid H' [q]) xs ds) : Dp K H' (.ref q) (.list ds) := .lst (SqL.of h) (dpsS hid_le e)
end
/-- a list or a tuple of data -/
def DpA (K : PySem.W.Frag) (H : Hp) (v : V) (ds : List PyData) : Prop := Dp K H v (.list ds) ∨ Dp K H v (.tuple ds)
theorem DpA.same {K : PySem.W.Frag} {H H' : Hp} {v : V} {ds : List PyData} (s : Same H H') (h : DpA K H v ds) : DpA K H' v ds := h.imp (dpS s) (dpS s)
theorem DpA.sq {K : PySem.W.Frag} {H : Hp} {v : V} {ds : List PyData} (h : DpA K H v ds) : ∃ a xs, v = .ref a ∧ SqA K H a xs ∧ DpAll K H xs ds := by
  rcases h with h | h
  · obtain ⟨a, xs, e, s, r⟩ := dpL h; exact ⟨a, xs, e, .inl s, r⟩
  · obtain ⟨a, xs, e, s, r⟩ := dpT h; exact ⟨a, xs, e, .inr s, r⟩
theorem getD_map {α : Type} {f : α → PyData} {l : List α} {i : Nat} (d : α) (hi : i < l.length) (e : PyData) : (l.map f).getD i e = f (l.getD i d) := by
  rw [List.getD_eq_getElem?_getD, List.getD_eq_getElem?_getD, List.getElem?_map, List.getElem?_eq_getElem hi]; rfl
/-- [g(x) for x in data], where each turn makes new things alone -/
theorem z_lcDp {K : PySem.W.Frag} {α : Type} (dα : α) {f g : α → PyData} {l : List α} {ps : List Addr} {v : V} {gg : TG} {te : TE} {vs : List Nat} {σ : L2.St} {H : Hp} {Q : VK} (h : DpA K (hid H ps) v (l.map f)) (hn : l.length ≤ 1000) (oc : Occ H ps)
    (turn : ∀ (C : Addr) (i : Nat) (x : V) (H' : Hp) (k : VK), i < l.length → Occ H' (C :: ps) → H C = none → Same H H' → Dp K (hid H' (C :: ps)) x (f (l.getD i dα)) → (∀ y H4, Same H' H4 → Dp K (hid H4 (C :: ps)) y (g (l.getD i dα)) → k y H4) →
      gg x (wipe σ vs) H' fun σ2 H2 => wipe σ2 vs = wipe σ vs ∧ te σ2 H2 k)
    (q : ∀ (r : Addr) H', H r = none → Same H H' → Occ H' (r :: ps) → Dp K (hid H' ps) (.ref r) (.list (l.map g)) → Q (.ref r) H') :
    zLcS K gg tYes te vs σ v H Q := by
  obtain ⟨a, xs, rfl, e, r⟩ := h.sq
  have hl : xs.length = l.length := by rw [dpsLen r, List.length_map]
  have trn : ∀ (C : Addr) (i : Nat) (x : V) (H' : Hp), H C = none → xs[i]? = some x → (Same H H' ∧ ∃ ms : List V, H' C = some (.lst ms) ∧ DpAll K (hid H' (C :: ps)) ms ((l.take i).map g)) →
      gg x (wipe σ vs) H' fun σ2 H2 => wipe σ2 vs = wipe σ vs ∧ tYes σ2 H2 fun b H3 =>
        if b = true then te σ2 H3 fun y H4 => ∃ acc, H4 C = some (.lst acc) ∧ acc.length < sizeLine ∧ (Same H (upd H4 C (.lst (acc ++ [y]))) ∧ ∃ ms : List V, upd H4 C (.lst (acc ++ [y])) C = some (.lst ms) ∧ DpAll K (hid (upd H4 C (.lst (acc ++ [y]))) (C :: ps)) ms ((l.take (i + 1)).map g)) else (Same H H3 ∧ ∃ ms : List V, H3 C = some (.lst ms) ∧ DpAll K (hid H3 (C :: ps)) ms ((l.take (i + 1)).map g)) := by
    rintro C i x H' hC hx ⟨s, ms, eC, rm⟩
    have hi : i < xs.length := (List.getElem?_eq_some_iff.mp hx).1
    have hi2 : i < l.length := by omega
    obtain ⟨x', e', dx⟩ := dpsGet r PyData.none (i := i) (by rw [List.length_map]; exact hi2)
    rw [hx] at e'
    obtain rfl := Option.some.inj e'
    rw [getD_map dα hi2] at dx
    refine turn C i x H' _ hi2 ((oc.same s).cons eC) hC s (dpS (hid_ofS hC s) dx) fun y H4 s4 dy => ?_
    have lm := dpsLen rm
    rw [List.length_map, List.length_take] at lm
    refine z_accum (s4 _ _ eC) (by omega) ⟨Same.put hC (Same.trans s s4), ms ++ [y], upd_same, ?_⟩
    rw [hid_put (List.mem_cons_self ..), take_dS dα hi2, List.map_append]
    exact dpsApp (dpsS (hid_same s4) rm) dy
  have fin : ∀ (C : Addr) (H' : Hp), H C = none → (Same H H' ∧ ∃ ms : List V, H' C = some (.lst ms) ∧ DpAll K (hid H' (C :: ps)) ms ((l.take xs.length).map g)) → Q (.ref C) H' := by
    rintro C H' hC ⟨s, ms, eC, rm⟩
    rw [hl, List.take_length] at rm
    exact q C H' hC s ((oc.same s).cons eC) (dpO eC (oc.no hC) rm)
  have st : ∀ C, H C = none → (Same H (upd H C (.lst [])) ∧ ∃ ms : List V, upd H C (.lst []) C = some (.lst ms) ∧ DpAll K (hid (upd H C (.lst [])) (C :: ps)) ms ((l.take 0).map g)) := fun C hC => ⟨Same.new hC (Same.refl H), [], upd_same, .nil⟩
  have sqS : ∀ {H' : Hp}, Same H H' → SqA K H' a xs := fun {H'} s => (e.same hid_le).same s
  rcases e.same hid_le with e | e
  · exact z_lcl e (fun C i H' => Same H H' ∧ ∃ ms : List V, H' C = some (.lst ms) ∧ DpAll K (hid H' (C :: ps)) ms ((l.take i).map g)) st (fun C i H' _ _ z => Same.seq z.1 e) trn fin
  · exact z_lct e (fun C i H' => Same H H' ∧ ∃ ms : List V, H' C = some (.lst ms) ∧ DpAll K (hid H' (C :: ps)) ms ((l.take i).map g)) st (fun C i H' _ _ z => Same.sqT z.1 e) trn fin
/-! ### equal data -/
def lay1 (n : Nat) (d : PyData) : Prop := d.canLay0 = true ∧ d.depth ≤ n
theorem lay1.up {n m : Nat} {d : PyData} (h : n ≤ m) (l : lay1 n d) : lay1 m d := ⟨l.1, Nat.le_trans l.2 h⟩
theorem lay1.none {n : Nat} : lay1 n .none := ⟨rfl, Nat.zero_le _⟩
theorem lay1.int {n : Nat} {i : Int} : lay1 n (.int i) := ⟨rfl, Nat.zero_le _⟩
theorem lay1.bool {n : Nat} {b : Bool} : lay1 n (.bool b) := ⟨rfl, Nat.zero_le _⟩
theorem lay1.h {n : Nat} {x : Option Int} : lay1 n (hD x) := by cases x <;> exact ⟨rfl, Nat.zero_le _⟩
theorem lay_all {n : Nat} : ∀ {ds : List PyData}, (∀ d ∈ ds, lay1 n d) → PyData.canLayAll0 ds = true ∧ PyData.depthAll ds ≤ n
  | [], _ => ⟨by simp only [PyData.canLayAll0], by simp only [PyData.depthAll]; exact Nat.zero_le _⟩
  | d :: ds, h => by
    have h1 := h d (List.mem_cons_self ..)
    have h2 := lay_all fun x hx => h x (List.mem_cons_of_mem _ hx)
    refine ⟨by simp only [PyData.canLayAll0]; rw [h1.1, h2.1]; rfl, ?_⟩
    simp only [PyData.depthAll]
    exact Nat.max_le.mpr ⟨h1.2, h2.2⟩
theorem lay1.list {n : Nat} {ds : List PyData} (h : ∀ d ∈ ds, lay1 n d) : lay1 (n + 1) (.list ds) := ⟨by simp only [PyData.canLay0]; exact (lay_all h).1, by simp only [PyData.depth]; have := (lay_all h).2; omega⟩
theorem lay1.tuple {n : Nat} {ds : List PyData} (h : ∀ d ∈ ds, lay1 n d) : lay1 (n + 1) (.tuple ds) := ⟨by simp only [PyData.canLay0]; exact (lay_all h).1, by simp only [PyData.depth]; have := (lay_all h).2; omega⟩
theorem lay1.ints {n : Nat} {xs : List Int} : ∀ d ∈ diI xs, lay1 n d := fun d h => by
  obtain ⟨i, _, rfl⟩ := List.mem_map.mp h; exact .int
theorem lay1.sh {n : Nat} {d : PyData} (h : lay1 n d) (hn : n ≤ 64) : SeqAt.shaped d = true := by
  unfold SeqAt.shaped; rw [h.1, decide_eq_true (Nat.le_trans h.2 hn)]; rfl
theorem z_eqP {K : PySem.W.Frag} {H : Hp} {p q : Addr} {d : PyData} {n : Nat} {Q : VK} (h1 : Dp K H (.ref p) d) (h2 : Dp K H (.ref q) d) (l : lay1 n d) (hn : n ≤ 64) (k : Q (.bl true) H) : uEq K (.ref p) (.ref q) H Q :=
  z_eqD h1 h2 (l.sh hn) (l.sh hn) (by rw [SeqAt.eqv_refl d l.1]; exact k)
theorem z_whileK {c : TT} {ti : TS} {D : Ends} {σ : L2.St} {H : Hp} (Pv : Nat → L2.St → Hp → Prop) (Ex : L2.St → Hp → Prop) (m : Nat) (h0 : Pv m σ H)
    (hs : ∀ X : L2.St → Hp → Prop, (∀ σ H, Ex σ H → X σ H) → ∀ m σ H, Pv m σ H → c σ H fun b H1 => if b = true then ∃ N : L2.St → Hp → Prop, (∀ σ' H', N σ' H' → ∃ m', m' < m ∧ Pv m' σ' H') ∧ ti { D with nx := N, ct := N, bk := X } σ H1 else X σ H1)
    (hx : ∀ σ H, Ex σ H → D.nx σ H) : tWhile c ti D σ H := ⟨Pv, ⟨m, h0⟩, hs D.nx hx⟩
theorem z_zipL {K : PySem.W.Frag} {σ : L2.St} {H : Hp} {D : Ends} {tb : TS} {a b : Addr} {xs ys : List V} {u v : Nat} (h1 : SqL K H a xs) (h2 : SqL K H b ys) (Pv : Nat → L2.St → Hp → Prop) (h0 : Pv 0 σ H) (hk : ∀ i σ' H', Pv i σ' H' → SqL K H' a xs ∧ SqL K H' b ys)
    (hs : ∀ i x y p σ' H', xs[i]? = some x → ys[i]? = some y → Pv i σ' H' → H' p = none → tb { D with nx := Pv (i + 1), ct := Pv (i + 1), bk := D.nx } ((σ'.set u (some x)).set v (some y)) (upd H' p (.tup [x, y])))
    (hd : ∀ σ' H', Pv (min xs.length ys.length) σ' H' → D.nx σ' H') : zZip K (gTup K 2 (gCons (gName u) (gCons (gName v) gNil))) tb D σ [.ref a, .ref b] H := by
  refine ⟨a, b, xs, ys, rfl, .inl ⟨h1, h2, fun i m σ H => m = min xs.length ys.length - i ∧ i ≤ min xs.length ys.length ∧ Pv i σ H, ⟨_, rfl, Nat.zero_le _, h0⟩, ?_⟩⟩
  rintro i m σ' H' ⟨rfl, hi, p⟩
  obtain ⟨q1, q2⟩ := hk i σ' H' p
  by_cases hlt : i < min xs.length ys.length
  · have l1 : i < xs.length := by omega
    have l2 : i < ys.length := by omega
    refine .inr ⟨⟨xs, ys, xs[i], ys[i], q1, q2, by simp [l1], by simp [l2]⟩, Pv (i + 1), fun σ2 H2 p' => ⟨_, by omega, rfl, by omega, p'⟩, ?_⟩
    rintro x H2 ⟨T, x1, y1, rfl, hT, rfl, f1, f2⟩
    exact ⟨T, [x1, y1], rfl, .inl (.inl upd_same), rfl, x1, [y1], rfl, y1, [], rfl, rfl, hs i x1 y1 T σ' H' (f1 xs q1) (f2 ys q2) p hT⟩
  · have e : i = min xs.length ys.length := by omega
    subst e
    exact .inl ⟨⟨xs, ys, q1, q2, by omega⟩, hd σ' H' p⟩
theorem z_enumAL {K : PySem.W.Frag} {σ : L2.St} {H : Hp} {D : Ends} {tb : TS} {a : Addr} {xs : List V} {u v : Nat} (h : SqL K H a xs) (Pv : Nat → L2.St → Hp → Prop) (h0 : Pv 0 σ H) (hk : ∀ i σ' H', Pv i σ' H' → SqL K H' a xs)
    (hs : ∀ i x p σ' H', xs[i]? = some x → Pv i σ' H' → H' p = none → tb { D with nx := Pv (i + 1), ct := Pv (i + 1), bk := D.nx } ((σ'.set u (some (.int (i : Nat)))).set v (some x)) (upd H' p (.tup [.int (i : Nat), x])))
    (hd : ∀ σ' H', Pv xs.length σ' H' → D.nx σ' H') : zEnumA K (gTup K 2 (gCons (gName u) (gCons (gName v) gNil))) tb D σ [.ref a] H := by
  refine ⟨a, xs, rfl, .inl ⟨h, fun i m σ H => m = xs.length - i ∧ i ≤ xs.length ∧ Pv i σ H, ⟨_, rfl, Nat.zero_le _, h0⟩, ?_⟩⟩
  rintro i m σ' H' ⟨rfl, hi, p⟩
  have q1 := hk i σ' H' p
  by_cases hlt : i < xs.length
  · refine .inr ⟨⟨xs, xs[i], q1, by simp [hlt]⟩, Pv (i + 1), fun σ2 H2 p' => ⟨_, by omega, rfl, by omega, p'⟩, ?_⟩
    rintro x H2 ⟨T, x1, rfl, hT, rfl, f1⟩
    exact ⟨T, [.int (i : Nat), x1], rfl, .inl (.inl upd_same), rfl, .int (i : Nat), [x1], rfl, x1, [], rfl, rfl, hs i x1 T σ' H' (f1 xs q1) p hT⟩
  · have e : i = xs.length := by omega
    subst e
    exact .inl ⟨⟨xs, q1, by omega⟩, hd σ' H' p⟩
abbrev tI (v : List Int) : PyData := .tuple (diI v)
/-- an item of data -/
theorem dpsAt {K : PySem.W.Frag} {H : Hp} {α : Type} (d : α) {f : α → PyData} {l : List α} {xs : List V} (h : DpAll K H xs (l.map f)) {i : Int} (h0 : 0 ≤ i) (h1 : i < l.length) : ∃ v, atI xs i = some v ∧ Dp K H v (f (l.getD i.toNat d)) := by
  have hi : i.toNat < l.length := by omega
  obtain ⟨v, e, dv⟩ := dpsGet h PyData.none (i := i.toNat) (by rw [List.length_map]; exact hi)
  rw [getD_map d hi] at dv
  have hl := dpsLen h
  rw [List.length_map] at hl
  refine ⟨v, ?_, dv⟩
  unfold atI
  rw [ix_at h0 (by omega)]
  exact e
/-! ### the heap without states of draws -/
open Classical in
noncomputable def flt (H : Hp) : Hp := fun a => match H a with | some o => if NotSt o then some o else none | none => none
theorem flt_lk {H : Hp} {a : Addr} {o : HO} (e : H a = some o) (n : NotSt o) : flt H a = some o := by unfold flt; rw [e]; exact if_pos n
theorem flt_inv {H : Hp} {a : Addr} {o : HO} (e : flt H a = some o) : H a = some o ∧ NotSt o := by
  unfold flt at e
  cases h : H a with
  | none => rw [h] at e; cases e
  | some u =>
    rw [h] at e
    by_cases n : NotSt u
    · simp only [if_pos n] at e; cases e; exact ⟨rfl, n⟩
    · simp only [if_neg n] at e; cases e
theorem flt_le {H : Hp} : Same (flt H) H := fun a o e => (flt_inv e).1
theorem flt_exd {H H' : Hp} (x : ExD H H') : Same (flt H) (flt H') := fun a o e => flt_lk (x a o (flt_inv e).2 (flt_inv e).1) (flt_inv e).2
/-- from a heap that is tracked, without p -/
theorem flt_hid {H H' : Hp} {p : Addr} (h : H p = none) (x : ExD H H') : Same (flt H) (hid (flt H') [p]) := fun a o e => hid_lk (fun z => by
  rw [List.mem_singleton] at z; subst z; rw [(flt_inv e).1] at h; cases h) (flt_exd x a o e)
theorem dpsRef {K : PySem.W.Frag} {H : Hp} {α : Type} {f : α → List PyData} : ∀ {l : List α} {ms : List V}, DpAll K H ms (l.map fun x => .tuple (f x)) → ∃ ps : List Addr, ms = ps.map V.ref
  | [], _, h => ⟨[], by rw [dps0 h]; rfl⟩
  | x :: l, _, h => by
    obtain ⟨v, ws, rfl, a, b⟩ := dpsC h
    obtain ⟨p, _, rfl, _, _⟩ := dpT a
    obtain ⟨ps, rfl⟩ := dpsRef b
    exact ⟨p :: ps, rfl⟩

/-! ### training in plain -/
def bestZ (css : List (List Int)) (xs : List Int) : Nat → Nat
  | 0 => 0
  | i + 1 => if distZ (css.getD (i + 1) []) xs < distZ (css.getD (bestZ css xs i) []) xs then i + 1 else bestZ css xs i
theorem bestZ_le (css : List (List Int)) (xs : List Int) : ∀ i, bestZ css xs i ≤ i
  | 0 => Nat.le_refl 0
  | i + 1 => by
    have := bestZ_le css xs i
    unfold bestZ
    split <;> omega
theorem bestZ_s {css : List (List Int)} {xs : List Int} {i : Nat} : bestZ css xs (i + 1) = if distZ (css.getD (i + 1) []) xs < distZ (css.getD (bestZ css xs i) []) xs then i + 1 else bestZ css xs i := rfl
def nearZ (css : List (List Int)) (xs : List Int) : Nat := bestZ css xs (css.length - 1)
/-- all of one size, and of numbers that are not too great -/
def VOk (sz : Nat) (css : List (List Int)) : Prop := ∀ c ∈ css, c.length = sz ∧ Bd 1000000 c
theorem getR_mem {css : List (List Int)} {i : Nat} (h : i < css.length) : css.getD i [] ∈ css := by
  rw [List.getD_eq_getElem?_getD, List.getElem?_eq_getElem h]; exact List.getElem_mem h
theorem VOk.at {sz : Nat} {css : List (List Int)} (h : VOk sz css) {i : Nat} (hi : i < css.length) : (css.getD i []).length = sz ∧ Bd 1000000 (css.getD i []) := h _ (getR_mem hi)
theorem zip_take {α β : Type} : ∀ (l : List α) (pl : List β) (j : Nat), (l.take j).zip pl = (l.zip pl).take j
  | [], pl, j => by simp
  | _ :: _, [], j => by simp
  | a :: l, b :: pl, 0 => by simp
  | a :: l, b :: pl, j + 1 => by simp [zip_take l pl j]
def ownG {α : Type} (l : List α) (pl : List Int) (k : Int) : List α := ((l.zip pl).filter fun z => z.2 == k).map (·.1)
theorem ownG_take {α : Type} {l : List α} {pl : List Int} {k : Int} {i : Nat} (h : i < l.length) (h2 : i < pl.length) : ownG (l.take (i + 1)) pl k = if pl.getD i 0 = k then ownG (l.take i) pl k ++ [l[i]] else ownG (l.take i) pl k := by
  unfold ownG
  rw [zip_take, zip_take, List.take_succ, List.getElem?_eq_getElem (by rw [List.length_zip]; omega), List.getElem_zip]
  have e2 : pl.getD i 0 = pl[i] := by rw [List.getD_eq_getElem?_getD, List.getElem?_eq_getElem h2]; rfl
  rw [e2]
  simp only [Option.toList_some, List.filter_append, List.map_append]
  by_cases hk : pl[i] = k
  · rw [if_pos hk]; simp [hk]
  · rw [if_neg hk]; simp [hk]
theorem All2.own {α β : Type} {R : α → β → Prop} {as : List α} {bs : List β} (h : All2 R as bs) (k : Int) : ∀ pl : List Int, All2 R (ownG as pl k) (ownG bs pl k) := by
  induction h with
  | nil => intro pl; exact .nil
  | cons h t ih =>
    intro pl
    cases pl with
    | nil => exact .nil
    | cons x r =>
      have := ih r
      unfold ownG at *
      simp only [List.zip_cons_cons, List.filter_cons]
      split
      · exact .cons h this
      · exact this
theorem ownG_mem {α : Type} {l : List α} {pl : List Int} {k : Int} {x : α} (h : x ∈ ownG l pl k) : x ∈ l := by
  unfold ownG at h
  obtain ⟨z, hz, rfl⟩ := List.mem_map.mp h
  exact (List.of_mem_zip (List.mem_filter.mp hz).1).1
theorem ownG_len {α : Type} {l : List α} {pl : List Int} {k : Int} : (ownG l pl k).length ≤ l.length := by
  unfold ownG
  rw [List.length_map]
  refine Nat.le_trans (List.length_filter_le _ _) ?_
  rw [List.length_zip]; omega
def colZ (own : List (List Int)) (k : Nat) : List Int := own.map fun v => v.getD k 0
theorem take_sD {α : Type} {l : List α} {i : Nat} (d : α) (h : i < l.length) : l.take (i + 1) = l.take i ++ [l.getD i d] := by
  rw [List.take_succ, List.getD_eq_getElem?_getD, List.getElem?_eq_getElem h]; rfl
theorem colZ_take {own : List (List Int)} {i j : Nat} (h : j < own.length) : colZ (own.take (j + 1)) i = colZ (own.take j) i ++ [(own.getD j []).getD i 0] := by
  unfold colZ; rw [take_sD [] h, List.map_append]; rfl
def meanZ (own : List (List Int)) : List Int := (List.range (own.getD 0 []).length).map fun k => (colZ own k).sum / (own.length : Int)
def moveZ (css vss : List (List Int)) : List (List Int) := (List.range css.length).map fun (k : Nat) =>
  if 0 < (ownG vss (vss.map fun v => (nearZ css v : Int)) (k : Int)).length then meanZ (ownG vss (vss.map fun v => (nearZ css v : Int)) (k : Int)) else css.getD k []
def initZ (vss : List (List Int)) (m : Nat) : List (List Int) := (List.range m).map fun i => vss.getD (i * vss.length / m) []
def trainZ (vss : List (List Int)) (m : Nat) : Nat → List (List Int)
  | 0 => initZ vss m
  | i + 1 => moveZ (trainZ vss m i) vss
theorem sum_bd {b : Int} : ∀ {xs : List Int}, Bd b xs → -(b * xs.length) ≤ xs.sum ∧ xs.sum ≤ b * xs.length
  | [], _ => by simp
  | x :: xs, h => by
    have ih := sum_bd (b := b) (xs := xs) fun y hy => h y (List.mem_cons_of_mem _ hy)
    have hx := h x (List.mem_cons_self ..)
    rw [List.sum_cons, List.length_cons, Int.natCast_add, Int.mul_add]
    generalize b * (xs.length : Int) = u at *
    show -(u + b * 1) ≤ _ ∧ _ ≤ u + b * 1
    omega
theorem mean_bd {b : Int} {xs : List Int} (h : Bd b xs) (h0 : 0 < xs.length) : -b ≤ xs.sum / (xs.length : Int) ∧ xs.sum / (xs.length : Int) ≤ b := by
  obtain ⟨h1, h2⟩ := sum_bd h
  refine ⟨?_, ?_⟩
  · apply Int.le_ediv_of_mul_le (by omega); rw [Int.neg_mul]; exact h1
  · apply Int.ediv_le_of_le_mul (by omega); exact h2
theorem meanZ_ok {sz : Nat} {own : List (List Int)} (o : VOk sz own) (h0 : 0 < own.length) : (meanZ own).length = sz ∧ Bd 1000000 (meanZ own) := by
  refine ⟨by rw [meanZ, List.length_map, List.length_range, (o.at h0).1], fun x hx => ?_⟩
  obtain ⟨k, hk, rfl⟩ := List.mem_map.mp hx
  have hk := List.mem_range.mp hk
  rw [(o.at h0).1] at hk
  have := mean_bd (b := 1000000) (xs := colZ own k) (fun y hy => by
    obtain ⟨v, hv, rfl⟩ := List.mem_map.mp hy
    exact (o v hv).2.at (by rw [(o v hv).1]; exact hk)) (by simpa [colZ] using h0)
  simpa [colZ] using this
theorem moveZ_ok {sz : Nat} {css vss : List (List Int)} (o : VOk sz css) (ov : VOk sz vss) : VOk sz (moveZ css vss) := by
  intro c hc
  obtain ⟨k, hk, rfl⟩ := List.mem_map.mp hc
  have hk := List.mem_range.mp hk
  split
  · rename_i h0
    exact meanZ_ok (fun c hc => ov c (ownG_mem hc)) h0
  · exact o.at hk
theorem moveZ_len {css vss : List (List Int)} : (moveZ css vss).length = css.length := by simp [moveZ]
theorem initZ_len {vss : List (List Int)} {m : Nat} : (initZ vss m).length = m := by simp [initZ]
theorem init_lt {i m n : Nat} (h : i < m) (hn : 0 < n) : i * n / m < n := by
  apply Nat.div_lt_of_lt_mul
  rw [Nat.mul_comm m n, Nat.mul_comm i n]
  exact Nat.mul_lt_mul_of_pos_left h hn
theorem trainZ_len {vss : List (List Int)} {m : Nat} : ∀ i, (trainZ vss m i).length = m
  | 0 => initZ_len
  | i + 1 => by show (moveZ _ _).length = _; rw [moveZ_len]; exact trainZ_len i
theorem trainZ_ok {sz m : Nat} {vss : List (List Int)} (o : VOk sz vss) (hm : m ≤ vss.length) : ∀ i, VOk sz (trainZ vss m i)
  | 0 => fun c hc => by
    obtain ⟨k, hk, rfl⟩ := List.mem_map.mp hc
    have hk := List.mem_range.mp hk
    exact o.at (init_lt hk (by omega))
  | i + 1 => moveZ_ok (trainZ_ok o hm i) o
theorem trainZ_nil {vss : List (List Int)} (i : Nat) : trainZ vss 0 i = [] := List.length_eq_zero_iff.mp (trainZ_len i)
abbrev plZ (css vss : List (List Int)) : List Int := vss.map fun v => (nearZ css v : Int)
theorem plZ_at {css vss : List (List Int)} {i : Nat} (h : i < vss.length) : (plZ css vss).getD i 0 = (nearZ css (vss.getD i []) : Int) := by
  rw [List.getD_eq_getElem?_getD, List.getElem?_map, List.getD_eq_getElem?_getD, List.getElem?_eq_getElem h]; rfl
theorem moveZ_take {css vss : List (List Int)} {i : Nat} (h : i < css.length) : (moveZ css vss).take (i + 1) = (moveZ css vss).take i ++ [if 0 < (ownG vss (plZ css vss) (i : Int)).length then meanZ (ownG vss (plZ css vss) (i : Int)) else css.getD i []] := by
  rw [take_sD [] (by rw [moveZ_len]; exact h)]
  congr 2
  unfold moveZ
  rw [List.getD_eq_getElem?_getD, List.getElem?_map, List.getElem?_range h]
  rfl
theorem initZ_take {vss : List (List Int)} {m i : Nat} (h : i < m) : (initZ vss m).take (i + 1) = (initZ vss m).take i ++ [vss.getD (i * vss.length / m) []] := by
  rw [take_sD [] (by rw [initZ_len]; exact h)]
  congr 2
  unfold initZ
  rw [List.getD_eq_getElem?_getD, List.getElem?_map, List.getElem?_range h]
  rfl
theorem fresh_back {H H' : Hp} {p : Addr} (s : Same H H') (h : H' p = none) : H p = none := by
  cases e : H p with
  | none => rfl
  | some o => rw [s _ _ e] at h; cases h

/-! ### signs and names of fields -/
def letC (c : Nat) : Bool := (decide (97 ≤ c) && decide (c ≤ 122)) || ((decide (65 ≤ c) && decide (c ≤ 90)) || c == 95)
def digC (c : Nat) : Bool := decide (48 ≤ c) && decide (c ≤ 57)
theorem lt_one {c d : Nat} : ([c] : List Nat) < [d] ↔ c < d := by
  rw [List.cons_lt_cons_iff]
  constructor
  · rintro (h | ⟨_, h⟩)
    · exact h
    · exact absurd h (List.lt_irrefl _)
  · exact fun h => .inl h
theorem dec_le {c d : Nat} {x y : Str} (hx : x.cps.toList = [c]) (hy : y.cps.toList = [d]) : (!decide (y.cps.toList < x.cps.toList)) = decide (c ≤ d) := by
  rw [hx, hy, Bool.eq_iff_iff]
  simp only [Bool.not_eq_true', decide_eq_false_iff_not, decide_eq_true_iff, lt_one]
  omega
abbrev one (c : Nat) : Str := ⟨#[c]⟩
theorem one_us (c : Nat) : decide (one c = "_") = (c == 95) := by
  rw [show ("_" : Str) = one 95 by decide +kernel, Bool.eq_iff_iff, decide_eq_true_iff, beq_iff_eq]
  constructor
  · intro h; injection h with h; simpa using h
  · intro h; rw [h]
theorem inV_str (x : Str) (ks : List Str) : inV (.str x) (ks.map V.str) = decide (x ∈ ks) := by
  unfold inV
  rw [Bool.eq_iff_iff, List.any_eq_true, decide_eq_true_iff]
  constructor
  · rintro ⟨y, hy, e⟩
    obtain ⟨m, hm, rfl⟩ := List.mem_map.mp hy
    have : m = x := by simpa [eqV] using e
    rw [← this]; exact hm
  · intro h
    exact ⟨.str x, List.mem_map.mpr ⟨x, h, rfl⟩, by simp [eqV]⟩
theorem flat_strs (ks : List Str) : (ks.map V.str).all flatV = true := by
  rw [List.all_eq_true]
  intro x hx
  obtain ⟨m, _, rfl⟩ := List.mem_map.mp hx
  rfl
def WRD : List Str := ["every", "has", "in", "and", "or", "not", "true", "false"]
def KND : List Str := ["integer", "text", "flag"]
def MSR : List Str := ["square", "dot", "bits"]
def fnZ (x : Str) : Bool := !decide (x = "") && (letC (x.cps.toList.headD 0) && (!decide (x ∈ WRD) && x.cps.toList.all fun c => letC c || digC c))
abbrev N_is_letter : List Str := ["sign"]
-- is_letter(sign): slots 0:sign
def T_is_letter (K : PySem.W.Frag) : TS :=
    (tRet (tOrV (tChain uLe uLe (tC (.str "a")) (tVar 0) (tC (.str "z"))) (tOrV (tChain uLe uLe (tC (.str "A")) (tVar 0) (tC (.str "Z"))) (tOp (uEq K) (tVar 0) (tC (.str "_"))))))

def sp_is_letter (K : PySem.W.Frag) : Sp := fun vs H Q _ => ∃ c : Nat, vs = [.str (one c)] ∧ Q (.bl (letC c)) H
theorem is_letter_c {K : PySem.W.Frag} {c : Nat} {H : Hp} {Q : VK} {E : XK} (q : Q (.bl (letC c)) H) : sp_is_letter K [.str (one c)] H Q E := ⟨c, rfl, q⟩
theorem w_is_letter {K : PySem.W.Frag} : Wd (T_is_letter K) N_is_letter 1 (sp_is_letter K) := fun vs H Q E h => by
  obtain ⟨c, rfl, q⟩ := h
  refine ⟨rfl, ?_⟩
  show T_is_letter K _ [some (.str (one c))] H
  unfold T_is_letter
  walk_at "zz"
  rw [dec_le (x := "a") (y := one c) (c := 97) (d := c) rfl rfl]
  have fin : ∀ b1 : Bool, b1 = (decide (97 ≤ c) && decide (c ≤ 122)) → (if b1 = true then (Q (.bl true) H) else (tOrV (tChain uLe uLe (tC (.str "A")) (tVar 0) (tC (.str "Z"))) (tOp (uEq K) (tVar 0) (tC (.str "_")))) [some (.str (one c))] H Q) := by
    intro b1 e1
    cases b1 with
    | true =>
      rw [if_pos rfl]
      unfold letC at q
      rw [← e1, Bool.true_or] at q
      exact q
    | false =>
      rw [if_neg Bool.false_ne_true]
      unfold letC at q
      rw [← e1, Bool.false_or] at q
      walk_at "zz"
      rw [dec_le (x := "A") (y := one c) (c := 65) (d := c) rfl rfl]
      by_cases c1 : 65 ≤ c
      · rw [decide_eq_true c1] at q ⊢
        walk_at "zx"
        rw [dec_le (x := one c) (y := "Z") (c := c) (d := 90) rfl rfl]
        by_cases c2 : c ≤ 90
        · rw [decide_eq_true c2] at q ⊢
          walk_at "zx"
          exact q
        · rw [decide_eq_false c2] at q ⊢
          walk_at "zx"
          rw [one_us]
          simpa using q
      · rw [decide_eq_false c1] at q ⊢
        walk_at "zx"
        rw [one_us]
        simpa using q
  by_cases c1 : 97 ≤ c
  · rw [decide_eq_true c1] at fin ⊢
    walk_at "zx"
    rw [dec_le (x := one c) (y := "z") (c := c) (d := 122) rfl rfl]
    exact fin _ (by simp)
  · rw [decide_eq_false c1] at fin ⊢
    refine z_iteF ?_
    exact ⟨false, rfl, fin false rfl⟩
abbrev N_is_digit : List Str := ["sign"]
-- is_digit(sign): slots 0:sign
def T_is_digit (K : PySem.W.Frag) : TS :=
    (tRet (tChain uLe uLe (tC (.str "0")) (tVar 0) (tC (.str "9"))))

def sp_is_digit (K : PySem.W.Frag) : Sp := fun vs H Q _ => ∃ c : Nat, vs = [.str (one c)] ∧ Q (.bl (digC c)) H
theorem is_digit_c {K : PySem.W.Frag} {c : Nat} {H : Hp} {Q : VK} {E : XK} (q : Q (.bl (digC c)) H) : sp_is_digit K [.str (one c)] H Q E := ⟨c, rfl, q⟩
theorem w_is_digit {K : PySem.W.Frag} : Wd (T_is_digit K) N_is_digit 1 (sp_is_digit K) := fun vs H Q E h => by
  obtain ⟨c, rfl, q⟩ := h
  refine ⟨rfl, ?_⟩
  show T_is_digit K _ [some (.str (one c))] H
  unfold T_is_digit
  walk_at "zz"
  rw [dec_le (x := "0") (y := one c) (c := 48) (d := c) rfl rfl]
  unfold digC at q
  by_cases c1 : 48 ≤ c
  · rw [decide_eq_true c1] at q ⊢
    walk_at "zx"
    rw [dec_le (x := one c) (y := "9") (c := c) (d := 57) rfl rfl]
    simpa using q
  · rw [decide_eq_false c1] at q ⊢
    walk_at "zx"
    exact q
abbrev N_is_field_name : List Str := ["name", "sign"]
-- is_field_name(name): slots 0:name 1:sign
def T_is_field_name_b1 (K : PySem.W.Frag) : TS :=
    (tIfS (tAnd (tNot (tTru K (tCal (sp_is_letter K) (tCons (tVar 1) tNil)))) (tNot (tTru K (tCal (sp_is_digit K) (tCons (tVar 1) tNil))))) (tRet (tC (.bl false))) tNext)
def T_is_field_name (K : PySem.W.Frag) : TS :=
    (tSeq (tIfS (tOr (tTest (tOp (uEq K) (tVar 0) (tC (.str "")))) (tOr (tNot (tTru K (tCal (sp_is_letter K) (tCons (tOp (uIx K) (tVar 0) (tC (.int 0))) tNil)))) (tTest (tOp (uIn K) (tVar 0) (tCstT K [.str "every", .str "has", .str "in", .str "and", .str "or", .str "not", .str "true", .str "false"]))))) (tRet (tC (.bl false))) tNext)
    (tSeq (tFor (iStr (tVar 0)) (gName 1) (T_is_field_name_b1 K))
    (tRet (tC (.bl true)))))

def sp_is_field_name (K : PySem.W.Frag) : Sp := fun vs H Q _ => ∃ x : Str, vs = [.str x] ∧ x.length ≤ 100000 ∧ Q (.bl (fnZ x)) H
theorem is_field_name_c {K : PySem.W.Frag} {x : Str} {H : Hp} {Q : VK} {E : XK} (h : x.length ≤ 100000) (q : Q (.bl (fnZ x)) H) : sp_is_field_name K [.str x] H Q E := ⟨x, rfl, h, q⟩
theorem w_is_field_name {K : PySem.W.Frag} : Wd (T_is_field_name K) N_is_field_name 1 (sp_is_field_name K) := fun vs H Q E h => by
  obtain ⟨x, rfl, hx, q⟩ := h
  refine ⟨rfl, ?_⟩
  show T_is_field_name K _ [some (.str x), none] H
  unfold T_is_field_name
  walk_at "zz"
  by_cases h0 : x = ""
  · rw [decide_eq_true h0]
    walk_at "zx"
    rw [show fnZ x = false by unfold fnZ; rw [decide_eq_true h0]; rfl] at q
    exact q
  rw [decide_eq_false h0]
  walk_at "zx"
  obtain ⟨c0, r, e0⟩ : ∃ c0 r, x.cps.toList = c0 :: r := by
    cases e : x.cps.toList with
    | nil =>
      exfalso
      cases x with
      | mk a =>
        have z : a = #[] := by simpa using e
        subst z
        exact h0 (by decide +kernel)
    | cons c r => exact ⟨c, r, rfl⟩
  refine ⟨c0, Nat.le_trans hx (by decide), by rw [e0]; unfold atI; rw [ix_at (by decide) (by simp)]; rfl, ?_⟩
  walk_at "zz"
  refine is_letter_c ?_
  walk_at "zz"
  cases hl : letC c0 with
  | false =>
    walk_at "zx"
    rw [show fnZ x = false by unfold fnZ; rw [e0]; show (_ && (letC c0 && _)) = false; rw [hl]; simp] at q
    exact q
  | true =>
  walk_at "zx"
  rename_i T hT
  refine z_in (.inr (hT H)) rfl (flat_strs WRD) ?_
  rw [show ([V.str "every", V.str "has", V.str "in", V.str "and", V.str "or", V.str "not", V.str "true", V.str "false"] : List V) = WRD.map V.str from rfl, inV_str]
  by_cases hw : x ∈ WRD
  · rw [decide_eq_true hw]
    walk_at "zx"
    rw [show fnZ x = false by unfold fnZ; rw [decide_eq_true hw]; simp] at q
    exact q
  rw [decide_eq_false hw]
  walk_at "zx"
  have eq : fnZ x = x.cps.toList.all fun c => letC c || digC c := by
    unfold fnZ
    rw [decide_eq_false h0, decide_eq_false hw, e0]
    show (!false && (letC c0 && _)) = _
    rw [hl]; simp
  refine z_txt (fun i σ H' => H' = H ∧ (∀ c ∈ x.cps.toList.take i, (letC c || digC c) = true) ∧ ∃ w, σ = [some (.str x), w]) ⟨rfl, (fun _ h => nomatch h), _, rfl⟩ ?_ ?_
  · rintro i c σ' H' hc ⟨rfl, ok, w, rfl⟩
    have hc2 : x.cps.toList[i]? = some c := by rw [Array.getElem?_toList]; exact hc
    have memc : c ∈ x.cps.toList := List.mem_of_getElem? hc2
    unfold T_is_field_name_b1
    walk_at "zz"
    refine is_letter_c ?_
    walk_at "zz"
    have step : (letC c || digC c) = true → ∀ d ∈ x.cps.toList.take (i + 1), (letC d || digC d) = true := fun h d hd => by
      rw [List.take_succ, hc2] at hd
      rcases List.mem_append.mp hd with hd | hd
      · exact ok d hd
      · have : d = c := by simpa using hd
        rw [this]; exact h
    cases h1 : letC c with
    | true =>
      walk_at "zx"
      exact ⟨rfl, step (by rw [h1]; rfl), _, rfl⟩
    | false =>
      walk_at "zx"
      refine is_digit_c ?_
      walk_at "zz"
      cases h2 : digC c with
      | true =>
        walk_at "zx"
        exact ⟨rfl, step (by rw [h2]; simp), _, rfl⟩
      | false =>
        walk_at "zx"
        have nf : fnZ x = false := by
          rw [eq, Bool.eq_false_iff]
          intro h
          have := List.all_eq_true.mp h c memc
          rw [h1, h2] at this; cases this
        rw [nf] at q
        exact q
  · rintro σ' H' ⟨rfl, ok, w, rfl⟩
    walk_at "zz"
    rw [show fnZ x = true by
      rw [eq, List.all_eq_true]
      intro c hc
      exact ok c (by rw [List.take_of_length_le (by simp)]; exact hc)] at q
    exact q

/-! ### schemas -/
abbrev RNG : List (Str × DV) := [("bit", .t [.int 0, .int 1]), ("small", .t [.int (-128), .int 127]), ("wide", .t [.int (-32768), .int 32767])]
def WDT : List Str := ["bit", "small", "wide"]
theorem look_rng (w : Str) : (RNG.lookup w).isSome = decide (w ∈ WDT) := by
  unfold RNG WDT
  rw [List.lookup_cons, List.lookup_cons, List.lookup_cons, List.lookup_nil]
  by_cases h1 : w = "bit"
  · subst h1; decide +kernel
  by_cases h2 : w = "small"
  · subst h2; decide +kernel
  by_cases h3 : w = "wide"
  · subst h3; decide +kernel
  rw [beq_eq_false_iff_ne.mpr h1, beq_eq_false_iff_ne.mpr h2, beq_eq_false_iff_ne.mpr h3]
  simp [h1, h2, h3]
def fV (fl : List (Str × Str)) : List (V × V) := fl.map fun x => (.str x.1, .str x.2)
structure SchGood (size : Int) (w m : Str) (fl : List (Str × Str)) : Prop where
  sz : 1 ≤ size
  wd : w ∈ WDT
  ms : m ∈ MSR
  bt : m = "bits" → w = "bit"
  nd : (fl.map (·.1)).Nodup
  fd : ∀ x ∈ fl, x.2 ∈ KND ∧ fnZ x.1 = true
abbrev SCH : List Str := ["size", "width", "measure", "fields"]
abbrev schF (size : Int) (w m : Str) (tf : Addr) : List (Str × V) := [("size", .int size), ("width", .str w), ("measure", .str m), ("fields", .ref tf)]
def SchAt (K : PySem.W.Frag) (c : CEnv) (H : Hp) (p : Addr) (size : Int) (w m : Str) (fl : List (Str × Str)) : Prop := ∃ tf, InsAt K c H p "Schema" (schF size w m tf) ∧ PairsT K H tf (fV fl)
theorem SchAt.same {K : PySem.W.Frag} {c : CEnv} {H H' : Hp} {p : Addr} {size : Int} {w m : Str} {fl : List (Str × Str)} (s : Same H H') (h : SchAt K c H p size w m fl) : SchAt K c H' p size w m fl := let ⟨t, a, b⟩ := h; ⟨t, a.same s, b.same s⟩
/-- over a list or a tuple that stood in an earlier heap -/
theorem z_forA {K : PySem.W.Frag} {σ : L2.St} {H0 H : Hp} {D : Ends} {g : TG} {tb : TS} {a : Addr} {xs : List V} (h : SqA K H0 a xs) (s0 : Same H0 H) (Pv : Nat → L2.St → Hp → Prop) (h0 : Pv 0 σ H) (hk : ∀ i σ' H', Pv i σ' H' → Same H0 H')
    (hs : ∀ i x σ' H', xs[i]? = some x → Pv i σ' H' → g x σ' H' fun σ2 H2 => tb { D with nx := Pv (i + 1), ct := Pv (i + 1), bk := D.nx } σ2 H2) (hd : ∀ σ' H', Pv xs.length σ' H' → D.nx σ' H') : zForS K g tb D σ (.ref a) H := by
  rcases h with h | h
  · exact z_forL (Same.seq s0 h) Pv h0 (fun i σ' H' _ p => Same.seq (hk i σ' H' p) h) hs hd
  · exact z_forT (Same.sqT s0 h) Pv h0 (fun i σ' H' _ p => Same.sqT (hk i σ' H' p) h) hs hd
abbrev dF : Str × Str := ("", "")
theorem fV_at {fl : List (Str × Str)} {i : Nat} (h : i < fl.length) : (fV fl).getD i (V.non, V.non) = (.str (fl.getD i dF).1, .str (fl.getD i dF).2) := by
  unfold fV
  rw [List.getD_eq_getElem?_getD, List.getElem?_map, List.getD_eq_getElem?_getD, List.getElem?_eq_getElem h]; rfl
abbrev N_Schema_init : List Str := ["self", "size", "width", "measure", "fields", "names", "name", "kind"]
-- Schema.__init__(self, size, width, measure, fields): slots 0:self 1:size 2:width 3:measure 4:fields 5:names 6:name 7:kind
def T_Schema_init_b1 (K : PySem.W.Frag) (c : CEnv) (W : WX) : TS :=
    (tSeq (tIfS (tOr (tTest (tOp (uNotIn K) (tVar 7) (tCstT K [.str "integer", .str "text", .str "flag"]))) (tOr (tNot (tTru K (tCal (sp_is_field_name K) (tCons (tVar 6) tNil)))) (tTest (tOp (uIn K) (tVar 6) (tVar 5))))) (sRaise c "InvalidSchema" W) tNext)
    (tDrop (tBM K "list" rAppend (tVar 5) (tCons (tVar 6) tNil))))
def T_Schema_init (K : PySem.W.Frag) (c : CEnv) (W : WX) : TS :=
    (tSeq (tIfS (tOr (tTest (tOp (uLt K) (tVar 1) (tC (.int 1)))) (tOr (tTest (tKout [("bit", .t [.int 0, .int 1]), ("small", .t [.int (-128), .int 127]), ("wide", .t [.int (-32768), .int 32767])] (tVar 2))) (tTest (tOp (uNotIn K) (tVar 3) (tCstT K [.str "square", .str "dot", .str "bits"]))))) (sRaise c "InvalidSchema" W) tNext)
    (tSeq (tIfS (tAnd (tTest (tOp (uEq K) (tVar 3) (tC (.str "bits")))) (tTest (tOp (uNe K) (tVar 2) (tC (.str "bit"))))) (sRaise c "InvalidSchema" W) tNext)
    (tSeq (tAsg (tLst tNil) (gName 5))
    (tSeq (tFor (iSq K (tVar 4)) (gTup K 2 (gCons (gName 6) (gCons (gName 7) gNil))) (T_Schema_init_b1 K c W))
    (tSeq (sFld K (tVar 0) (tVar 1) "size")
    (tSeq (sFld K (tVar 0) (tVar 2) "width")
    (tSeq (sFld K (tVar 0) (tVar 3) "measure")
    (sFld K (tVar 0) (tCB (uTuple K) (tCons (tLc (iSq K (tVar 4)) (gTup K 2 (gCons (gName 6) (gCons (gName 7) gNil))) tYes (tTup (tCons (tVar 6) (tCons (tVar 7) tNil))) [6, 7]) tNil)) "fields"))))))))

def sp_Schema_init (K : PySem.W.Frag) (c : CEnv) : Sp := fun vs H Q E => ∃ (p dx f : Addr) (size : Int) (w m : Str) (fl : List (Str × Str)), vs = [.ref p, .int size, .str w, .str m, .ref f] ∧ ClsOk K c "Schema" ["size", "width", "measure", "fields"] ∧ H p = some (.ins (c.cls "Schema") dx []) ∧
  (∀ H', SameB p H H' → PairsA K H' f (fV fl)) ∧ fl.length ≤ 1000 ∧ (∀ x ∈ fl, x.1.length ≤ 100000) ∧
  (SchGood size w m fl → ∀ H', SameB p H H' → SchAt K c H' p size w m fl → Q .non H') ∧ (¬ SchGood size w m fl → ∀ H', SameB p H H' → E (.ref (c.cls "InvalidSchema")) none H')
theorem w_Schema_init {K : PySem.W.Frag} {c : CEnv} : WdX (T_Schema_init K c) N_Schema_init 5 (sp_Schema_init K c) := fun vs H Q E h => by
  obtain ⟨p, dx, f, size, w, m, fl, rfl, ok, hp, hf, hn, hln, good, bad⟩ := h
  refine ⟨rfl, ?_⟩
  show T_Schema_init K c _ _ [some (.ref p), some (.int size), some (.str w), some (.str m), some (.ref f), none, none, none] H
  have b0 := SameB.refl p H
  unfold T_Schema_init
  walk_at "zz"
  by_cases h1 : size < 1
  · rw [decide_eq_true h1]
    walk_at "zx"
    exact bad (fun g => by have := g.sz; omega) H b0
  rw [decide_eq_false h1]
  walk_at "zx"
  rw [show ([("bit", DV.t [.int 0, .int 1]), ("small", .t [.int (-128), .int 127]), ("wide", .t [.int (-32768), .int 32767])] : List (Str × DV)) = RNG from rfl, look_rng]
  by_cases h2 : w ∈ WDT
  case neg =>
    rw [decide_eq_false h2]
    walk_at "zx"
    exact bad (fun g => h2 g.wd) H b0
  rw [decide_eq_true h2]
  walk_at "zx"
  rename_i T1 hT1
  refine z_notIn (.inr (hT1 H)) rfl (flat_strs MSR) ?_
  rw [show ([V.str "square", V.str "dot", V.str "bits"] : List V) = MSR.map V.str from rfl, inV_str]
  by_cases h3 : m ∈ MSR
  case neg =>
    rw [decide_eq_false h3]
    walk_at "zx"
    exact bad (fun g => h3 g.ms) H b0
  rw [decide_eq_true h3]
  walk_at "zx"
  have cont : (m = "bits" → w = "bit") → ∀ N, H N = none → zForS K (gTup K 2 (gCons (gName 6) (gCons (gName 7) gNil))) (T_Schema_init_b1 K c (fun cls d x H => E cls d H)) { nx := (tSeq (sFld K (tVar 0) (tVar 1) "size") (tSeq (sFld K (tVar 0) (tVar 2) "width") (tSeq (sFld K (tVar 0) (tVar 3) "measure") (sFld K (tVar 0) (tCB (uTuple K) (tCons (tLc (iSq K (tVar 4)) (gTup K 2 (gCons (gName 6) (gCons (gName 7) gNil))) tYes (tTup (tCons (tVar 6) (tCons (tVar 7) tNil))) [6, 7]) tNil)) "fields"))) { nx := fun _ H' => Q .non H', rt := Q }), rt := Q } [some (.ref p), some (.int size), some (.str w), some (.str m), some (.ref f), some (.ref N), none, none] (.ref f) (upd H N (.lst [])) := by
    intro hb N hN
    have bN := b0.new (o := .lst []) hN
    obtain ⟨ps, hps, rps⟩ := hf H b0
    have lps := All2.len rps
    have lfv : (fV fl).length = fl.length := by simp [fV]
    have sN : Same H (upd H N (.lst [])) := Same.new hN (Same.refl H)
    refine z_forA hps sN (fun i σ H' => Same H H' ∧ H' N = some (.lst (((fl.map (·.1)).take i).map V.str)) ∧ ((fl.map (·.1)).take i).Nodup ∧ (∀ x ∈ fl.take i, x.2 ∈ KND ∧ fnZ x.1 = true) ∧ ∃ w6 w7 : Option V, σ = [some (.ref p), some (.int size), some (.str w), some (.str m), some (.ref f), some (.ref N), w6, w7])
      ⟨sN, upd_same, by simp, (fun _ h => nomatch h), _, _, rfl⟩ (fun i σ' H' z => z.1) ?_ ?_
    · rintro i x σ' H' hx ⟨s, eN, nd, ok2, w6, w7, rfl⟩
      obtain ⟨hi, rfl⟩ := map_ref hx
      have hi2 : i < fl.length := by omega
      have bH := SameB.same b0 s
      have memi := getD_mem' dF hi2
      have ep := All2.atD rps 0 (V.non, V.non) (show i < (fV fl).length by omega)
      rw [fV_at hi2] at ep
      have e1 : (fl.map (·.1)).getD i ("" : Str) = (fl.getD i dF).1 := by
        rw [List.getD_eq_getElem?_getD, List.getElem?_map, List.getD_eq_getElem?_getD, List.getElem?_eq_getElem hi2]; rfl
      have tk : (fl.map (·.1)).take (i + 1) = (fl.map (·.1)).take i ++ [(fl.getD i dF).1] := by
        rw [take_dS ("" : Str) (by simpa using hi2), e1]
      refine z_gTup2 (Same.sqT s ep) ?_
      unfold T_Schema_init_b1
      walk_at "zz"
      rename_i T2 hT2
      refine z_notIn (.inr (hT2 _)) rfl (flat_strs KND) ?_
      rw [show ([V.str "integer", V.str "text", V.str "flag"] : List V) = KND.map V.str from rfl, inV_str]
      by_cases c1 : (fl.getD i dF).2 ∈ KND
      case neg =>
        rw [decide_eq_false c1]
        walk_at "zx"
        exact bad (fun g => c1 (g.fd _ memi).1) _ bH
      rw [decide_eq_true c1]
      walk_at "zx"
      refine is_field_name_c (hln _ memi) ?_
      walk_at "zz"
      cases c2 : fnZ (fl.getD i dF).1 with
      | false =>
        walk_at "zx"
        exact bad (fun g => by have := (g.fd _ memi).2; rw [c2] at this; cases this) _ bH
      | true =>
      walk_at "zx"
      refine z_in (.inl (SqL.of eN)) rfl (flat_strs _) ?_
      rw [inV_str]
      by_cases c3 : (fl.getD i dF).1 ∈ (fl.map (·.1)).take i
      · rw [decide_eq_true c3]
        walk_at "zx"
        refine bad (fun g => ?_) _ bH
        have nd2 : ((fl.map (·.1)).take (i + 1)).Nodup := g.nd.sublist (List.take_sublist _ _)
        rw [tk, List.nodup_append] at nd2
        exact nd2.2.2 _ c3 _ (List.mem_singleton.mpr rfl) rfl
      · rw [decide_eq_false c3]
        walk_at "zx"
        refine z_app eN (by rw [List.length_map, List.length_take]; omega) ?_
        refine ⟨Same.put hN s, ?_, ?_, ?_, _, _, rfl⟩
        · rw [upd_same, tk, List.map_append]; rfl
        · rw [tk, List.nodup_append]
          refine ⟨nd, by simp, fun a ha b hb e => ?_⟩
          rw [List.mem_singleton.mp hb] at e
          subst e; exact c3 ha
        · rw [take_dS dF hi2]
          intro x hx
          rcases List.mem_append.mp hx with h | h
          · exact ok2 x h
          · rw [List.mem_singleton.mp h]; exact ⟨c1, c2⟩
    · rintro σ' H1 ⟨s1, eN, nd, ok2, w6, w7, rfl⟩
      rw [List.length_map, lps, lfv] at nd ok2
      rw [List.take_of_length_le (by simp)] at nd
      rw [List.take_length] at ok2
      have G : SchGood size w m fl := ⟨by omega, h2, h3, hb, nd, ok2⟩
      have hp1 := s1 _ _ hp
      have b1 := SameB.same b0 s1
      walk_at "zz"
      rw [upd_upd, upd_upd, show putF "measure" (V.str m) (putF "width" (V.str w) (putF "size" (V.int size) [])) = ([("size", .int size), ("width", .str w), ("measure", .str m)] : List (Str × V)) from rfl]
      have b2 := b1.put (o := .ins (c.cls "Schema") dx [("size", .int size), ("width", .str w), ("measure", .str m)])
      have e2 : upd H1 p (.ins (c.cls "Schema") dx [("size", .int size), ("width", .str w), ("measure", .str m)]) p = some (.ins (c.cls "Schema") dx [("size", .int size), ("width", .str w), ("measure", .str m)]) := upd_same
      generalize upd H1 p (.ins (c.cls "Schema") dx [("size", .int size), ("width", .str w), ("measure", .str m)]) = H2 at *
      refine z_lcPairs (hf _ b2) (by omega) (by walk_at "few") (by walk_at "few") (by decide) fun r H3 nr s3 hr => ?_
      obtain ⟨qs, er, rq⟩ := hr
      refine z_nil ?_
      refine z_tupleL (SqL.of er) fun u hu => ?_
      have s4 := Same.new (o := .tup (qs.map V.ref)) hu s3
      have ru4 : PairsT K (upd H3 u (.tup (qs.map V.ref))) u (fV fl) := ⟨qs, SqT.of upd_same, All2.imp (fun _ _ h => sqT_new hu h) rq⟩
      have e4 := s4 _ _ e2
      have b4 := SameB.same b2 s4
      generalize upd H3 u (.tup (qs.map V.ref)) = H4 at *
      walk_at "zz"
      refine good G _ b4.put ⟨u, ⟨ok, dx, ?_⟩, ru4.putI e4⟩
      rw [upd_same]; rfl
  by_cases h4 : m = "bits"
  · rw [decide_eq_true h4]
    walk_at "zx"
    by_cases h5 : w = "bit"
    · rw [decide_eq_true h5]
      walk_at "zx"
      exact cont (fun _ => h5) _ (by assumption)
    · rw [decide_eq_false h5]
      walk_at "zx"
      exact bad (fun g => h5 (g.bt h4)) H b0
  · rw [decide_eq_false h4]
    walk_at "zx"
    exact cont (fun h => absurd h h4) _ (by assumption)

theorem z_make0 {X : Cx} {c : CEnv} {k : Nat} {x : Str} {ps gs : List Str} {sp : Sp} {p pos : Pos} (CF : ClsF X.K X.mg c x gs) (M : Mkr X.prog X.w X.K X.mg X.base k (c.cls x) ps sp) (hr : Room (k + 1) X.A) (hg : Gl X x) (hdb : (x == ("__debug__" : Str)) = false := by decide) : PE X (.Call (.Name x p) [] [] pos) (tMk X.K c x gs sp tNil) := by
  obtain ⟨f, fd, hM, hb, F⟩ := M.ex
  have h := pe_make0 (E := E0) (dvs := []) (p := p) (pos := pos) hM F hr hg CF.mg hb .nil pass0 hdb
  refine ⟨fun pins s σ H Q I q => h.run pins s σ H Q I ?_⟩
  simp only [tMake, List.append_nil]
  have e : (tNil σ H fun vs H1 => ClsOk X.K c x gs → ∀ p dx, H1 p = none → H1 dx = none → dx ≠ p → sp (.ref p :: vs) (upd (upd H1 dx (.own p)) p (.ins (c.cls x) dx [])) (fun v H2 => v = .non ∧ Q (.ref p) H2) E0)
      = (tNil σ H fun vs H1 => ∀ p dx, H1 p = none → H1 dx = none → dx ≠ p → sp (.ref p :: vs) (upd (upd H1 dx (.own p)) p (.ins (c.cls x) dx [])) (fun v H2 => v = .non ∧ Q (.ref p) H2) E0) := by
    congr 1; funext vs H1; exact propext ⟨fun h => h CF.ok, fun h _ => h⟩
  rw [← e]; exact q
/-! ### the heap without what changes and without states of draws -/
noncomputable abbrev gh (H : Hp) (M : List Addr) : Hp := hid (flt H) M
section
variable {K : PySem.W.Frag} {H H' : Hp} {M M' : List Addr} {p q : Addr} {o : HO}
theorem flt_same (s : Same H H') : Same (flt H) (flt H') := flt_exd (ExD.of s)
theorem gh_same (s : Same H H') : Same (gh H M) (gh H' M) := hid_same (flt_same s)
theorem gh_le : Same (gh H M) H := Same.trans hid_le flt_le
theorem gh_exd (x : ExD H H') : Same (gh H M) (gh H' M) := hid_same (flt_exd x)
theorem gh_inv {a : Addr} (e : gh H M a = some o) : H a = some o ∧ NotSt o ∧ a ∉ M := by
  by_cases c : a ∈ M
  · rw [show gh H M a = none from hid_in c] at e; cases e
  · rw [show gh H M a = flt H a from hid_out c] at e
    exact ⟨(flt_inv e).1, (flt_inv e).2, c⟩
theorem gh_lk {a : Addr} (h : a ∉ M) (e : H a = some o) (n : NotSt o) : gh H M a = some o := hid_lk h (flt_lk e n)
theorem gh_hid (s : Same (hid H M) (hid H' M')) : Same (gh H M) (gh H' M') := fun a o e => by
  obtain ⟨e1, n, c⟩ := gh_inv e
  have x := s a o (hid_lk c e1)
  by_cases c2 : a ∈ M'
  · rw [hid_in c2] at x; cases x
  · rw [hid_out c2] at x; exact gh_lk c2 x n
theorem gh_put (h : p ∈ M) : gh (upd H p o) M = gh H M := by
  funext a
  by_cases c : a ∈ M
  · rw [show gh (upd H p o) M a = none from hid_in c, show gh H M a = none from hid_in c]
  · rw [show gh (upd H p o) M a = flt (upd H p o) a from hid_out c, show gh H M a = flt H a from hid_out c]
    unfold flt; rw [upd_ne (show a ≠ p from fun z => c (by rw [z]; exact h))]
theorem gh_of (h : H p = none) (s : Same H H') : Same (gh H M) (gh H' (p :: M)) := gh_hid (hid_ofS h s)
end
/-! ### states of files -/
abbrev St0 : Type := Option (List Int)
abbrev FS : Type := Str × St0 × List St0
abbrev dFS : FS := ("", none, [])
def oD : St0 → PyData | none => .none | some xs => .list (diI xs)
def OAt (G : Hp) (v : V) (st : St0) : Prop := match st with
  | none => v = .non
  | some xs => ∃ a, v = .ref a ∧ G a = some (.lst (xs.map V.int))
section
variable {K : PySem.W.Frag} {G G' : Hp} {v : V} {st : St0}
theorem OAt.same (s : Same G G') (h : OAt G v st) : OAt G' v st := by
  cases st with
  | none => exact h
  | some xs => obtain ⟨a, e, x⟩ := h; exact ⟨a, e, s _ _ x⟩
theorem OAt.dp (h : OAt G v st) : Dp K G v (oD st) := by
  cases st with
  | none => obtain rfl : v = .non := h; exact .non
  | some xs => obtain ⟨a, rfl, x⟩ := h; exact dpLI (SqL.of x)
theorem OAt.non (h : OAt G v st) : decide (v = .non) = decide (st = none) := by
  cases st with
  | none => obtain rfl : v = .non := h; rfl
  | some xs => obtain ⟨a, rfl, x⟩ := h; rw [decide_eq_false (by intro z; cases z), decide_eq_false (by intro z; cases z)]
theorem OAt.noInt {i : Int} (h : OAt G (.int i) st) : False := by
  cases st with
  | none => cases (show V.int i = .non from h)
  | some xs => obtain ⟨a, e, _⟩ := h; cases e
theorem OAt.notSt {ms : List V} {l : List St0} (h : All2 (OAt G) ms l) : NotSt (.lst ms) := fun L k a z => by
  injection z with z
  subst z
  cases h with
  | cons h1 t1 =>
    cases t1 with
    | cons h2 t2 => exact h2.noInt
end
theorem oD_lay {st : St0} : lay1 1 (oD st) := by
  cases st with
  | none => exact .none
  | some xs => exact lay1.list lay1.ints
theorem oD_eqv {a b : St0} : PyData.eqv (oD a) (oD b) = decide (a = b) := by
  cases a with
  | none => cases b with
    | none => simp [oD, PyData.eqv]
    | some y => simp [oD, PyData.eqv]
  | some x => cases b with
    | none => simp [oD, PyData.eqv]
    | some y => show PyData.eqv (.list (dInts x)) (.list (dInts y)) = _; rw [eqv_ints]; simp
theorem z_eqO {K : PySem.W.Frag} {H : Hp} {u v : V} {a b : St0} {Q : VK} (h1 : OAt H u a) (h2 : OAt H v b) (k : Q (.bl (decide (a = b))) H) : uEq K u v H Q := by
  have s1 : SeqAt.shaped (oD a) = true := oD_lay.sh (by decide)
  have s2 : SeqAt.shaped (oD b) = true := oD_lay.sh (by decide)
  have q : rEqD K u v H Q := ⟨oD a, oD b, h1.dp, h2.dp, s1, s2, by rw [oD_eqv]; exact k⟩
  cases a with
  | none =>
    obtain rfl : u = .non := h1
    cases b with
    | none => obtain rfl : v = .non := h2; exact z_eqN k
    | some y => obtain ⟨_, rfl, _⟩ := h2; exact .inr q
  | some x =>
    obtain ⟨_, rfl, _⟩ := h1
    cases b with
    | none => obtain rfl : v = .non := h2; exact .inr q
    | some y => obtain ⟨_, rfl, _⟩ := h2; exact .inl q
theorem z_neO {K : PySem.W.Frag} {H : Hp} {u v : V} {a b : St0} {Q : VK} (h1 : OAt H u a) (h2 : OAt H v b) (k : Q (.bl (!decide (a = b))) H) : uNe K u v H Q := by
  have s1 : SeqAt.shaped (oD a) = true := oD_lay.sh (by decide)
  have s2 : SeqAt.shaped (oD b) = true := oD_lay.sh (by decide)
  have q : rNeD K u v H Q := ⟨oD a, oD b, h1.dp, h2.dp, s1, s2, by rw [oD_eqv]; exact k⟩
  cases a with
  | none =>
    obtain rfl : u = .non := h1
    cases b with
    | none => obtain rfl : v = .non := h2; exact z_neN k
    | some y => obtain ⟨_, rfl, _⟩ := h2; exact .inr q
  | some x =>
    obtain ⟨_, rfl, _⟩ := h1
    cases b with
    | none => obtain rfl : v = .non := h2; exact .inr q
    | some y => obtain ⟨_, rfl, _⟩ := h2; exact .inl q
def curZ (f : FS) : St0 := f.2.2.getLast?.getD f.2.1
def stateZ (f : FS) (k : Nat) : St0 := if k = 0 then f.2.1 else f.2.2.getD (k - 1) none
def leastZ (b : St0) (s : List Int) : Nat := match b with | some x => if s.take x.length = x then x.length else 0 | none => 0
def leftZ (f : FS) (k sz : Int) : St0 := if k < 0 ∨ (f.2.2.length : Int) < k then curZ f else match stateZ f k.toNat with
  | none => none
  | some s => if k = 0 then some s else some (s.take (max sz (leastZ (stateZ f (k.toNat - 1)) s)).toNat)
abbrev filF (n : Str) (v : V) (s : Addr) : List (Str × V) := [("name", .str n), ("sure", v), ("since", .ref s)]
abbrev FIL : List Str := ["name", "sure", "since"]
/-- a file that stands at p, with its states since at s; its states stand in G -/
def FileAt (K : PySem.W.Frag) (c : CEnv) (H G : Hp) (p s : Addr) (f : FS) : Prop := ∃ v ms, InsAt K c H p "File" (filF f.1 v s) ∧ H s = some (.lst ms) ∧ OAt G v f.2.1 ∧ All2 (OAt G) ms f.2.2
theorem FileAt.same {K : PySem.W.Frag} {c : CEnv} {H H' G G' : Hp} {p s : Addr} {f : FS} (t : Same H H') (u : Same G G') (h : FileAt K c H G p s f) : FileAt K c H' G' p s f := by
  obtain ⟨v, ms, i, e, a, b⟩ := h
  exact ⟨v, ms, i.same t, t _ _ e, a.same u, All2.imp (fun _ _ h => h.same u) b⟩
theorem FileAt.exd {K : PySem.W.Frag} {c : CEnv} {H H' G G' : Hp} {p s : Addr} {f : FS} (t : ExD H H') (u : Same G G') (h : FileAt K c H G p s f) : FileAt K c H' G' p s f := by
  obtain ⟨v, ms, i, e, a, b⟩ := h
  exact ⟨v, ms, i.exd t, t _ _ (OAt.notSt b) e, a.same u, All2.imp (fun _ _ h => h.same u) b⟩
/-- the file as its own two objects say -/
theorem FileAt.lks {K : PySem.W.Frag} {c : CEnv} {H H' G G' : Hp} {p s : Addr} {f : FS} (h : FileAt K c H G p s f) (u : Same G G') (k1 : ∀ o, H p = some o → H' p = some o) (k2 : ∀ o, H s = some o → H' s = some o) : FileAt K c H' G' p s f := by
  obtain ⟨v, ms, ⟨ok, dx, i⟩, e, a, b⟩ := h
  exact ⟨v, ms, ⟨ok, dx, k1 _ i⟩, k2 _ e, a.same u, All2.imp (fun _ _ h => h.same u) b⟩
abbrev N_File_current : List Str := ["self"]
-- File.current(self): slots 0:self
def T_File_current (K : PySem.W.Frag) : TS :=
    (tRet (tIf (tTest (tOp uGt (tCB (uLen K) (tCons (tFld K (tVar 0) "since") tNil)) (tC (.int 0)))) (tOp (uIx K) (tFld K (tVar 0) "since") (tUn uNeg (tC (.int 1)))) (tFld K (tVar 0) "sure")))

def sp_File_current (K : PySem.W.Frag) (c : CEnv) : Sp := fun vs H Q _ => ∃ (p s : Addr) (G : Hp) (f : FS), vs = [.ref p] ∧ FileAt K c H G p s f ∧ ∀ v, OAt G v (curZ f) → Q v H
theorem File_current_c {K : PySem.W.Frag} {c : CEnv} {p s : Addr} {G H : Hp} {f : FS} {Q : VK} {E : XK} (h : FileAt K c H G p s f) (q : ∀ v, OAt G v (curZ f) → Q v H) : sp_File_current K c [.ref p] H Q E := ⟨p, s, G, f, rfl, h, q⟩
theorem w_File_current {K : PySem.W.Frag} {c : CEnv} : Wd (T_File_current K) N_File_current 1 (sp_File_current K c) := fun vs H Q E h => by
  obtain ⟨p, s, G, ⟨n, su, si⟩, rfl, ⟨v, ms, ⟨ok, dx, e⟩, es, ov, os⟩, q⟩ := h
  replace e : H p = some (.ins (c.cls "File") dx (filF n v s)) := e
  replace ok : ClsOk K c "File" FIL := ok
  have lms : ms.length = si.length := All2.len os
  have os' := os
  refine ⟨rfl, ?_⟩
  show T_File_current K _ [some (.ref p)] H
  unfold T_File_current
  walk_at "zz"
  by_cases c1 : si = []
  · subst c1
    have : ms = [] := List.length_eq_zero_iff.mp lms
    subst this
    rw [decide_eq_false (show ¬ (0 : Int) < (([] : List V).length : Int) by simp)]
    walk_at "zx"
    exact q v ov
  · have l0 : 0 < si.length := List.length_pos_iff.mpr c1
    rw [decide_eq_true (show (0 : Int) < (ms.length : Int) by omega)]
    walk_at "zx"
    have a1 : atI ms (-1) = some (ms.getD (ms.length - 1) .non) := by
      have e1 : ixN ms.length (-1) = some (ms.length - 1) := by unfold ixN; simp; omega
      unfold atI
      rw [e1]
      show ms[ms.length - 1]? = _
      rw [List.getD_eq_getElem?_getD, List.getElem?_eq_getElem (by omega)]; rfl
    try refine z_ix (.inl (SqL.of es)) a1 ?_
    refine q _ ?_
    have ol := All2.atD os V.non none (i := si.length - 1) (show si.length - 1 < si.length by omega)
    rw [show si.length - 1 = ms.length - 1 by omega] at ol
    rw [show curZ (n, su, si) = si.getD (ms.length - 1) none by
      unfold curZ; simp only; rw [List.getLast?_eq_getElem?, ← lms, List.getD_eq_getElem?_getD, List.getElem?_eq_getElem (by omega)]; rfl]
    exact ol
abbrev N_File_state : List Str := ["self", "number"]
-- File.state(self, number): slots 0:self 1:number
def T_File_state (K : PySem.W.Frag) : TS :=
    (tRet (tIf (tTest (tOp (uEq K) (tVar 1) (tC (.int 0)))) (tFld K (tVar 0) "sure") (tOp (uIx K) (tFld K (tVar 0) "since") (tOp uSub (tVar 1) (tC (.int 1))))))

def sp_File_state (K : PySem.W.Frag) (c : CEnv) : Sp := fun vs H Q _ => ∃ (p s : Addr) (G : Hp) (f : FS) (k : Nat), vs = [.ref p, .int (k : Int)] ∧ FileAt K c H G p s f ∧ k ≤ f.2.2.length ∧ ∀ v, OAt G v (stateZ f k) → Q v H
theorem File_state_c {K : PySem.W.Frag} {c : CEnv} {p s : Addr} {G H : Hp} {f : FS} {k : Nat} {Q : VK} {E : XK} (h : FileAt K c H G p s f) (hk : k ≤ f.2.2.length) (q : ∀ v, OAt G v (stateZ f k) → Q v H) : sp_File_state K c [.ref p, .int (k : Int)] H Q E := ⟨p, s, G, f, k, rfl, h, hk, q⟩
theorem w_File_state {K : PySem.W.Frag} {c : CEnv} : Wd (T_File_state K) N_File_state 2 (sp_File_state K c) := fun vs H Q E h => by
  obtain ⟨p, s, G, ⟨n, su, si⟩, k, rfl, ⟨v, ms, ⟨ok, dx, e⟩, es, ov, os⟩, hk, q⟩ := h
  replace e : H p = some (.ins (c.cls "File") dx (filF n v s)) := e
  replace ok : ClsOk K c "File" FIL := ok
  have lms : ms.length = si.length := All2.len os
  have os' := os
  refine ⟨rfl, ?_⟩
  show T_File_state K _ [some (.ref p), some (.int (k : Int))] H
  unfold T_File_state
  walk_at "zz"
  by_cases c1 : k = 0
  · subst c1
    rw [decide_eq_true (show ((0 : Nat) : Int) = 0 from rfl)]
    walk_at "zx"
    exact q v ov
  · rw [decide_eq_false (show ¬ (k : Int) = 0 by omega)]
    walk_at "zx"
    have hk : k ≤ si.length := hk
    have a1 : atI ms ((k : Int) - 1) = some (ms.getD (k - 1) .non) := by
      unfold atI
      rw [ix_at (by omega) (by omega)]
      show ms[((k : Int) - 1).toNat]? = _
      rw [show ((k : Int) - 1).toNat = k - 1 by omega, List.getD_eq_getElem?_getD, List.getElem?_eq_getElem (by omega)]; rfl
    try refine z_ix (.inl (SqL.of es)) a1 ?_
    refine q _ ?_
    have ol := All2.atD os V.non none (i := k - 1) (show k - 1 < si.length by omega)
    unfold stateZ; rw [if_neg c1]; exact ol
abbrev N_least_left : List Str := ["before", "state"]
-- least_left(before, state): slots 0:before 1:state
def T_least_left (K : PySem.W.Frag) : TS :=
    (tSeq (tIfS (tAnd (tTest (tOp uIsNot (tVar 0) (tC .non))) (tTest (tOp (uEq K) (tSl (uSl K) (tVar 1) tNoPart (tPart (tCB (uLen K) (tCons (tVar 0) tNil)))) (tVar 0)))) (tRet (tCB (uLen K) (tCons (tVar 0) tNil))) tNext)
    (tRet (tC (.int 0))))

def sp_least_left (K : PySem.W.Frag) : Sp := fun vs H Q _ => ∃ (u : V) (a : Addr) (b : St0) (s : List Int), vs = [u, .ref a] ∧ OAt H u b ∧ H a = some (.lst (s.map V.int)) ∧ ∀ H', Same H H' → Q (.int (leastZ b s : Nat)) H'
theorem least_left_c {K : PySem.W.Frag} {u : V} {a : Addr} {b : St0} {s : List Int} {H : Hp} {Q : VK} {E : XK} (h1 : OAt H u b) (h2 : H a = some (.lst (s.map V.int))) (q : ∀ H', Same H H' → Q (.int (leastZ b s : Nat)) H') : sp_least_left K [u, .ref a] H Q E := ⟨u, a, b, s, rfl, h1, h2, q⟩
theorem w_least_left {K : PySem.W.Frag} : Wd (T_least_left K) N_least_left 2 (sp_least_left K) := fun vs H Q E h => by
  obtain ⟨u, a, b, s, rfl, h1, h2, q⟩ := h
  refine ⟨rfl, ?_⟩
  show T_least_left K _ [some u, some (.ref a)] H
  unfold T_least_left
  walk_at "zz"
  cases b with
  | none =>
    obtain rfl : u = .non := h1
    rw [decide_eq_true (show V.non = .non from rfl)]
    walk_at "zx"
    exact q H (Same.refl _)
  | some x =>
    obtain ⟨t, rfl, e⟩ := h1
    rw [decide_eq_false (show ¬ V.ref t = .non from fun z => by cases z)]
    walk_at "zx"
    rename_i sl hsl
    have ec : cutV (s.map V.int) none (some ((x.map V.int).length : Int)) = (s.take x.length).map V.int := by
      rw [cutV_ints, sIx_pos (by omega), List.length_map]
      show ((s.drop 0).take (min (x.length : Int).toNat s.length - 0)).map V.int = _
      rw [List.drop_zero, Int.toNat_natCast, Nat.sub_zero]
      congr 1
      rw [List.take_eq_take_iff]; omega
    rw [ec]
    have s1 : Same H (upd H sl (.lst ((s.take x.length).map V.int))) := Same.new hsl (Same.refl _)
    have e1 := s1 _ _ e
    refine z_eqO (a := some (s.take x.length)) (b := some x) ⟨sl, rfl, upd_same⟩ ⟨t, rfl, e1⟩ ?_
    walk_at "zz"
    unfold leastZ at q
    simp only at q
    by_cases c1 : s.take x.length = x
    · rw [decide_eq_true (by rw [c1])]
      rw [if_pos c1] at q
      walk_at "zx"
      rw [List.length_map]
      exact q _ s1
    · rw [decide_eq_false (fun z => c1 (Option.some.inj z))]
      rw [if_neg c1] at q
      walk_at "zx"
      exact q _ s1
abbrev N_left_of : List Str := ["file", "number", "size", "state", "least"]
-- left_of(file, number, size): slots 0:file 1:number 2:size 3:state 4:least
def T_left_of (K : PySem.W.Frag) (c : CEnv) : TS :=
    (tSeq (tIfS (tOr (tTest (tOp (uLt K) (tVar 1) (tC (.int 0)))) (tTest (tOp uGt (tVar 1) (tCB (uLen K) (tCons (tFld K (tVar 0) "since") tNil))))) (tRet (tMt c "File" "current" (sp_File_current K c) (tVar 0) tNil)) tNext)
    (tSeq (tAsg (tMt c "File" "state" (sp_File_state K c) (tVar 0) (tCons (tVar 1) tNil)) (gName 3))
    (tSeq (tIfS (tOr (tTest (tOp (uEq K) (tVar 1) (tC (.int 0)))) (tTest (tOp uIs (tVar 3) (tC .non)))) (tRet (tVar 3)) tNext)
    (tSeq (tAsg (tCal (sp_least_left K) (tCons (tMt c "File" "state" (sp_File_state K c) (tVar 0) (tCons (tOp uSub (tVar 1) (tC (.int 1))) tNil)) (tCons (tVar 3) tNil))) (gName 4))
    (tRet (tSl (uSl K) (tVar 3) tNoPart (tPart (tCB uMin (tCons (tCB uMax (tCons (tVar 2) (tCons (tVar 4) tNil))) (tCons (tCB (uLen K) (tCons (tVar 3) tNil)) tNil))))))))))

def sp_left_of (K : PySem.W.Frag) (c : CEnv) : Sp := fun vs H Q _ => ∃ (p s : Addr) (M : List Addr) (f : FS) (k sz : Int), vs = [.ref p, .int k, .int sz] ∧ FileAt K c H (gh H M) p s f ∧ Occ H M ∧ 0 ≤ sz ∧ f.2.2.length ≤ 1000 ∧ ∀ v H', Same H H' → OAt (gh H' M) v (leftZ f k sz) → Q v H'
theorem left_of_c {K : PySem.W.Frag} {c : CEnv} {p s : Addr} {M : List Addr} {f : FS} {k sz : Int} {H : Hp} {Q : VK} {E : XK} (h : FileAt K c H (gh H M) p s f) (oc : Occ H M) (hs : 0 ≤ sz) (hl : f.2.2.length ≤ 1000) (q : ∀ v H', Same H H' → OAt (gh H' M) v (leftZ f k sz) → Q v H') : sp_left_of K c [.ref p, .int k, .int sz] H Q E := ⟨p, s, M, f, k, sz, rfl, h, oc, hs, hl, q⟩
theorem w_left_of {K : PySem.W.Frag} {c : CEnv} : Wd (T_left_of K c) N_left_of 3 (sp_left_of K c) := fun vs H Q E h => by
  obtain ⟨p, s, M, ⟨n, su, si⟩, k, sz, rfl, hf, oc, hs, hl, q⟩ := h
  have hf0 := hf
  obtain ⟨v, ms, ⟨ok, dx, e⟩, es, ov, os⟩ := hf
  replace e : H p = some (.ins (c.cls "File") dx (filF n v s)) := e
  replace ok : ClsOk K c "File" FIL := ok
  have lms : ms.length = si.length := All2.len os
  have os' := os
  have hl : si.length ≤ 1000 := hl
  refine ⟨rfl, ?_⟩
  show T_left_of K c _ [some (.ref p), some (.int k), some (.int sz), none, none] H
  unfold T_left_of
  walk_at "zz"
  unfold leftZ at q
  simp only at q
  have cur : (k < 0 ∨ (si.length : Int) < k) → sp_File_current K c [.ref p] H Q E0 := fun hc => by
    rw [if_pos hc] at q
    exact File_current_c hf0 fun v ov => q v H (Same.refl _) ov
  by_cases c1 : k < 0
  · rw [decide_eq_true c1]
    walk_at "zx"
    exact ⟨_, _, _, rfl, e, rfl, cur (.inl c1)⟩
  rw [decide_eq_false c1]
  walk_at "zx"
  by_cases c2 : (si.length : Int) < k
  · rw [decide_eq_true (show (ms.length : Int) < k by omega)]
    walk_at "zx"
    exact ⟨_, _, _, rfl, e, rfl, cur (.inr c2)⟩
  rw [decide_eq_false (show ¬ (ms.length : Int) < k by omega)]
  rw [if_neg (by omega)] at q
  walk_at "zx"
  refine ⟨_, _, _, rfl, e, rfl, ?_⟩
  walk_at "zz"
  obtain ⟨k', rfl⟩ : ∃ k' : Nat, k = (k' : Int) := ⟨k.toNat, by omega⟩
  rw [Int.toNat_natCast] at q
  refine File_state_c hf0 (show k' ≤ si.length by omega) fun v3 o3 => ?_
  walk_at "zz"
  cases hst : stateZ (n, su, si) k' with
  | none =>
    rw [hst] at o3 q
    obtain rfl : v3 = .non := o3
    by_cases c3 : k' = 0
    · rw [decide_eq_true (show (k' : Int) = 0 by omega)]
      walk_at "zx"
      exact q _ H (Same.refl _) rfl
    · rw [decide_eq_false (show ¬ (k' : Int) = 0 by omega)]
      walk_at "zx"
      try rw [decide_eq_true (show V.non = .non from rfl)]
      walk_at "zx"
      exact q _ H (Same.refl _) rfl
  | some st =>
    rw [hst] at o3 q
    simp only at q
    by_cases c3 : k' = 0
    · rw [decide_eq_true (show (k' : Int) = 0 by omega)]
      rw [if_pos (show (k' : Int) = 0 by omega)] at q
      walk_at "zx"
      exact q _ H (Same.refl _) o3
    · rw [decide_eq_false (show ¬ (k' : Int) = 0 by omega)]
      rw [if_neg (show ¬ (k' : Int) = 0 by omega)] at q
      obtain ⟨a3, rfl, e3⟩ := o3
      replace e3 := gh_le _ _ e3
      walk_at "zx"
      try rw [decide_eq_false (show ¬ V.ref a3 = .non from fun z => by cases z)]
      walk_at "zx"
      refine ⟨_, _, _, rfl, e, rfl, ?_⟩
      walk_at "zz"
      rw [show (k' : Int) - 1 = ((k' - 1 : Nat) : Int) by omega]
      refine File_state_c hf0 (show k' - 1 ≤ si.length by omega) fun v4 o4 => ?_
      walk_at "zz"
      refine least_left_c (o4.same gh_le) e3 fun H2 s2 => ?_
      have e32 := s2 _ _ e3
      walk_at "zz"
      rename_i sl hsl
      have ec : ∀ m : Int, m = (if ((List.map V.int st).length : Int) < (if (leastZ (stateZ (n, su, si) (k' - 1)) st : Int) > sz then (leastZ (stateZ (n, su, si) (k' - 1)) st : Int) else sz) then ((List.map V.int st).length : Int) else (if (leastZ (stateZ (n, su, si) (k' - 1)) st : Int) > sz then (leastZ (stateZ (n, su, si) (k' - 1)) st : Int) else sz)) →
          cutV (st.map V.int) none (some m) = (st.take (max sz (leastZ (stateZ (n, su, si) (k' - 1)) st : Int)).toNat).map V.int := fun m hm => by
        rw [List.length_map] at hm
        generalize (leastZ (stateZ (n, su, si) (k' - 1)) st : Int) = l at *
        have hm0 : 0 ≤ m := by rw [hm]; split <;> (try split) <;> omega
        rw [cutV_ints, sIx_pos hm0]
        show ((st.drop 0).take (min m.toNat st.length - 0)).map V.int = _
        rw [List.drop_zero, Nat.sub_zero]
        congr 1
        rw [List.take_eq_take_iff]
        rw [hm]
        split <;> (try split) <;> omega
      rw [ec _ rfl]
      refine q _ _ (Same.new hsl s2) ⟨sl, rfl, gh_lk ((oc.same s2).no hsl) upd_same NotSt.ints⟩

/-! ### cuts -/
abbrev Cut : Type := Str × Int × Int
abbrev cutD (x : Cut) : PyData := .tuple [.str x.1, .int x.2.1, .int x.2.2]
def cutOf (n : Str) : List Cut → Option (Int × Int)
  | [] => none
  | x :: r => if x.1 = n then some x.2 else cutOf n r
theorem cutOf_at {n : Str} : ∀ {cs : List Cut} {i : Nat}, i < cs.length → (∀ j, j < i → (cs.getD j ("", 0, 0)).1 ≠ n) → (cs.getD i ("", 0, 0)).1 = n → cutOf n cs = some (cs.getD i ("", 0, 0)).2
  | [], i, h, _, _ => absurd h (Nat.not_lt_zero _)
  | x :: r, 0, _, _, e => if_pos e
  | x :: r, i + 1, h, no, e => by
    show (if x.1 = n then some x.2 else cutOf n r) = _
    rw [if_neg (show ¬ x.1 = n from no 0 (Nat.succ_pos _))]
    exact cutOf_at (by simpa using h) (fun j hj => no (j + 1) (by omega)) e
theorem cutOf_no {n : Str} : ∀ {cs : List Cut}, (∀ j, j < cs.length → (cs.getD j ("", 0, 0)).1 ≠ n) → cutOf n cs = none
  | [], _ => rfl
  | x :: r, no => by
    show (if x.1 = n then some x.2 else cutOf n r) = _
    rw [if_neg (show ¬ x.1 = n from no 0 (Nat.succ_pos _))]
    exact cutOf_no fun j hj => no (j + 1) (by simpa using hj)
abbrev N_cut_of : List Str := ["cuts", "name", "other", "number", "size"]
-- cut_of(cuts, name): slots 0:cuts 1:name 2:other 3:number 4:size
def T_cut_of_b1 (K : PySem.W.Frag) : TS :=
    (tIfS (tTest (tOp (uEq K) (tVar 2) (tVar 1))) (tRet (tTup (tCons (tVar 3) (tCons (tVar 4) tNil)))) tNext)
def T_cut_of (K : PySem.W.Frag) : TS :=
    (tSeq (tFor (iSq K (tVar 0)) (gTup K 3 (gCons (gName 2) (gCons (gName 3) (gCons (gName 4) gNil)))) (T_cut_of_b1 K))
    (tRet (tC .non)))

def sp_cut_of (K : PySem.W.Frag) : Sp := fun vs H Q _ => ∃ (cu : Addr) (n : Str) (cs : List Cut), vs = [.ref cu, .str n] ∧ Dp K H (.ref cu) (.list (cs.map cutD)) ∧ cs.length ≤ 1000 ∧ (match cutOf n cs with | none => Q .non H | some x => ∀ t, H t = none → Q (.ref t) (upd H t (.tup [.int x.1, .int x.2])))
theorem w_cut_of {K : PySem.W.Frag} : Wd (T_cut_of K) N_cut_of 2 (sp_cut_of K) := fun vs H Q E h => by
  obtain ⟨cu, n, cs, rfl, dc, hl, q⟩ := h
  obtain ⟨cu', xs, e0, ec, rc⟩ := dpL dc
  cases e0
  have lxs := dpsLen rc
  rw [List.length_map] at lxs
  refine ⟨rfl, ?_⟩
  show T_cut_of K _ [some (.ref cu), some (.str n), none, none, none] H
  unfold T_cut_of
  walk_at "zz"
  refine z_forL ec (fun i σ H' => H' = H ∧ (∀ j, j < i → (cs.getD j ("", 0, 0)).1 ≠ n) ∧ ∃ (v2 v3 v4 : Option V), σ = [some (.ref cu), some (.str n), v2, v3, v4]) ⟨rfl, fun j hj => absurd hj (Nat.not_lt_zero _), _, _, _, rfl⟩ (fun i σ' H' _ z => z.1 ▸ ec) ?_ ?_
  · rintro i x σ H' hx ⟨rfl, no, v2, v3, v4, rfl⟩
    have hi : i < xs.length := (List.getElem?_eq_some_iff.mp hx).1
    have hi2 : i < cs.length := by omega
    obtain ⟨x', ex, dx⟩ := dpsGet rc PyData.none (i := i) (by rw [List.length_map]; exact hi2)
    rw [hx] at ex
    obtain rfl := Option.some.inj ex
    rw [getD_map (("", 0, 0) : Cut) hi2] at dx
    have cat := cutOf_at hi2 no
    generalize hcx : cs.getD i ("", 0, 0) = y at *
    obtain ⟨yn, yk, ys⟩ := y
    obtain ⟨ta, us, rfl, et, r⟩ := dpT dx
    obtain ⟨y1, w1, rfl, d1, r⟩ := dpsC r
    obtain ⟨y2, w2, rfl, d2, r⟩ := dpsC r
    obtain ⟨y3, w3, rfl, d3, r⟩ := dpsC r
    obtain rfl := dps0 r
    obtain rfl := dpX d1
    obtain rfl := dpI d2
    obtain rfl := dpI d3
    refine z_gTup3 et ?_
    unfold T_cut_of_b1
    walk_at "zz"
    by_cases c1 : yn = n
    · rw [decide_eq_true c1]
      rw [cat c1] at q
      walk_at "zx"
      rename_i tt htt
      exact q tt htt
    · rw [decide_eq_false c1]
      walk_at "zx"
      refine ⟨rfl, fun j hj => ?_, _, _, _, rfl⟩
      by_cases ej : j = i
      · subst ej; rw [hcx]; exact c1
      · exact no j (by omega)
  · rintro σ H' ⟨rfl, no, v2, v3, v4, rfl⟩
    rw [cutOf_no (fun j hj => no j (by omega))] at q
    walk_at "zz"
    exact q
/-! ### disks -/
def OccN (H : Hp) (M : List Addr) : Prop := ∀ p ∈ M, ∃ o, NotSt o ∧ H p = some o
section
variable {H H' : Hp} {M : List Addr} {p : Addr} {o : HO}
theorem OccN.occ (h : OccN H M) : Occ H M := fun p hp => (h p hp).imp fun _ z => z.2
theorem OccN.same (s : Same H H') (h : OccN H M) : OccN H' M := fun p hp => (h p hp).imp fun _ z => ⟨z.1, s _ _ z.2⟩
theorem OccN.exd (s : ExD H H') (h : OccN H M) : OccN H' M := fun p hp => (h p hp).imp fun _ z => ⟨z.1, s _ _ z.1 z.2⟩
theorem OccN.put (n : NotSt o) (h : OccN H M) : OccN (upd H p o) M := fun a ha => by
  by_cases c : a = p
  · subst c; exact ⟨o, n, upd_same⟩
  · obtain ⟨u, n', e⟩ := h a ha; exact ⟨u, n', lk_ne c e⟩
theorem OccN.cons (n : NotSt o) (e : H p = some o) (h : OccN H M) : OccN H (p :: M) := fun a ha => by
  rcases List.mem_cons.mp ha with rfl | ha
  · exact ⟨o, n, e⟩
  · exact h a ha
end
/-- all else stays -/
structure Mv (H : Hp) (M : List Addr) (H' : Hp) (M' : List Addr) : Prop where
  sub : ∀ a ∈ M, a ∈ M'
  same : Same (hid H M) (hid H' M')
theorem Mv.refl {H : Hp} {M : List Addr} : Mv H M H M := ⟨fun _ h => h, Same.refl _⟩
theorem Mv.trans {H H1 H2 : Hp} {M M1 M2 : List Addr} (a : Mv H M H1 M1) (b : Mv H1 M1 H2 M2) : Mv H M H2 M2 := ⟨fun x h => b.sub x (a.sub x h), Same.trans a.same b.same⟩
theorem Mv.of {H H' : Hp} {M : List Addr} (s : Same H H') : Mv H M H' M := ⟨fun _ h => h, hid_same s⟩
theorem Mv.put {H : Hp} {M : List Addr} {p : Addr} {o : HO} (h : p ∈ M) : Mv H M (upd H p o) M := ⟨fun _ h => h, by rw [hid_put h]; exact Same.refl _⟩
theorem Mv.new {H : Hp} {M : List Addr} {p : Addr} {o : HO} (h : H p = none) : Mv H M (upd H p o) (p :: M) := ⟨fun _ h => List.mem_cons_of_mem _ h, hid_ofS h (Same.new h (Same.refl _))⟩
theorem Mv.gh {H H' : Hp} {M M' : List Addr} (m : Mv H M H' M') : Same (gh H M) (gh H' M') := gh_hid m.same
/-- all else stays, and the rows of tables do -/
structure MvR (H : Hp) (M : List Addr) (H' : Hp) (M' : List Addr) : Prop where
  sub : ∀ a ∈ M, a ∈ M'
  same : Same (hid H M) (hid H' M')
  row : ∀ a n r, H a = some (.lst (.str n :: r)) → H' a = some (.lst (.str n :: r))
theorem MvR.toMv {H H' : Hp} {M M' : List Addr} (m : MvR H M H' M') : Mv H M H' M' := ⟨m.sub, m.same⟩
theorem MvR.gh {H H' : Hp} {M M' : List Addr} (m : MvR H M H' M') : Same (gh H M) (gh H' M') := gh_hid m.same
theorem MvR.refl {H : Hp} {M : List Addr} : MvR H M H M := ⟨fun _ h => h, Same.refl _, fun _ _ _ e => e⟩
theorem MvR.trans {H H1 H2 : Hp} {M M1 M2 : List Addr} (a : MvR H M H1 M1) (b : MvR H1 M1 H2 M2) : MvR H M H2 M2 := ⟨fun x h => b.sub x (a.sub x h), Same.trans a.same b.same, fun x n r e => b.row x n r (a.row x n r e)⟩
theorem MvR.of {H H' : Hp} {M : List Addr} (s : Same H H') : MvR H M H' M := ⟨fun _ h => h, hid_same s, fun _ _ _ e => s _ _ e⟩
theorem MvR.put {H : Hp} {M : List Addr} {p : Addr} {o u : HO} (h : p ∈ M) (e : H p = some u) (n : ∀ n r, u ≠ .lst (.str n :: r)) : MvR H M (upd H p o) M := ⟨fun _ h => h, by rw [hid_put h]; exact Same.refl _, fun a m r e2 => lk_df e2 e (fun z => n m r z.symm)⟩
theorem OAt.notRow {G : Hp} {ms : List V} {l : List St0} (h : All2 (OAt G) ms l) : ∀ (n : Str) (r : List V), HO.lst ms ≠ .lst (.str n :: r) := fun n r z => by
  injection z with z
  subst z
  cases h with
  | cons h1 t1 =>
    rename_i b bs
    cases b with
    | none => cases (show V.str n = .non from h1)
    | some x => obtain ⟨_, e, _⟩ := h1; cases e
theorem refs_notRow {ps : List Addr} : ∀ (n : Str) (r : List V), HO.lst (ps.map V.ref) ≠ .lst (.str n :: r) := fun n r z => by
  injection z with z
  cases ps with
  | nil => cases z
  | cons _ _ => injection z with z _; cases z
abbrev dQ : Addr × Addr := (0, 0)
structure DiskIn (K : PySem.W.Frag) (c : CEnv) (H : Hp) (d : Addr) (M : List Addr) (t : Addr) (qs : List (Addr × Addr)) (F : List FS) : Prop where
  ins : InsAt K c H d "Disk" [("table", .ref t)]
  tb : H t = some (.lst ((qs.map (·.1)).map V.ref))
  fl : All2 (fun (q : Addr × Addr) f => FileAt K c H (gh H M) q.1 q.2 f) qs F
  nd1 : (qs.map (·.1)).Nodup
  nd2 : (t :: qs.map (·.2)).Nodup
  md : d ∈ M
  mt : t ∈ M
  mq : ∀ q ∈ qs, q.1 ∈ M ∧ q.2 ∈ M
  oc : OccN H M
section
variable {K : PySem.W.Frag} {c : CEnv} {H H' : Hp} {d t : Addr} {M M' : List Addr} {qs : List (Addr × Addr)} {F : List FS}
theorem DiskIn.len (D : DiskIn K c H d M t qs F) : qs.length = F.length := All2.len D.fl
theorem DiskIn.at (D : DiskIn K c H d M t qs F) {i : Nat} (h : i < F.length) : FileAt K c H (gh H M) (qs.getD i dQ).1 (qs.getD i dQ).2 (F.getD i dFS) := All2.atD D.fl dQ dFS h
theorem DiskIn.same (D : DiskIn K c H d M t qs F) (s : Same H H') : DiskIn K c H' d M t qs F :=
  ⟨D.ins.same s, s _ _ D.tb, All2.imp (fun _ _ h => h.same s (gh_same s)) D.fl, D.nd1, D.nd2, D.md, D.mt, D.mq, D.oc.same s⟩
theorem DiskIn.exd (D : DiskIn K c H d M t qs F) (s : ExD H H') : DiskIn K c H' d M t qs F :=
  ⟨D.ins.exd s, s _ _ NotSt.refs D.tb, All2.imp (fun _ _ h => h.exd s (gh_exd s)) D.fl, D.nd1, D.nd2, D.md, D.mt, D.mq, D.oc.exd s⟩
theorem FileAt.ex1 {G : Hp} {p s : Addr} {f : FS} (h : FileAt K c H G p s f) : ∃ dx fs, H p = some (.ins (c.cls "File") dx fs) ∧ fs.length = 3 := by
  obtain ⟨v, ms, ⟨ok, dx, i⟩, e, a, b⟩ := h; exact ⟨dx, _, i, rfl⟩
theorem FileAt.ex2 {G : Hp} {p s : Addr} {f : FS} (h : FileAt K c H G p s f) : ∃ ms, H s = some (.lst ms) := by
  obtain ⟨v, ms, ⟨ok, dx, i⟩, e, a, b⟩ := h; exact ⟨ms, e⟩
theorem nodup_at {l : List Addr} (h : l.Nodup) {i j : Nat} (hi : i < l.length) (hj : j < l.length) (n : i ≠ j) : l.getD i 0 ≠ l.getD j 0 := fun e => by
  rw [List.getD_eq_getElem?_getD, List.getD_eq_getElem?_getD, List.getElem?_eq_getElem hi, List.getElem?_eq_getElem hj] at e
  replace e : l[i] = l[j] := e
  have p := List.pairwise_iff_getElem.mp h
  rcases Nat.lt_or_gt_of_ne n with z | z
  · exact p i j hi hj z e
  · exact p j i hj hi z e.symm
theorem mapD1 {qs : List (Addr × Addr)} {i : Nat} : (qs.map (·.1)).getD i 0 = (qs.getD i dQ).1 := by
  rw [List.getD_eq_getElem?_getD, List.getD_eq_getElem?_getD, List.getElem?_map]; cases qs[i]? <;> rfl
theorem mapD2 {qs : List (Addr × Addr)} {i : Nat} : (qs.map (·.2)).getD i 0 = (qs.getD i dQ).2 := by
  rw [List.getD_eq_getElem?_getD, List.getD_eq_getElem?_getD, List.getElem?_map]; cases qs[i]? <;> rfl
theorem setD {α : Type} {l : List α} {i j : Nat} {x d : α} (hi : i < l.length) : (l.set i x).getD j d = if i = j then x else l.getD j d := by
  rw [List.getD_eq_getElem?_getD, List.getElem?_set]
  by_cases e : i = j
  · subst e; rw [if_pos rfl, if_pos rfl, if_pos hi]; rfl
  · rw [if_neg e, if_neg e, List.getD_eq_getElem?_getD]
theorem All2.ofD {α β : Type} {R : α → β → Prop} {as : List α} {bs : List β} (a : α) (b : β) (hl : as.length = bs.length) (f : ∀ i, i < bs.length → R (as.getD i a) (bs.getD i b)) : All2 R as bs :=
  All2.of (n := bs.length) hl rfl fun i hi hj => by
    have := f i hj
    rw [List.getD_eq_getElem?_getD, List.getD_eq_getElem?_getD, List.getElem?_eq_getElem hi, List.getElem?_eq_getElem hj] at this
    exact this
/-- one file gets other states -/
theorem DiskIn.set (D : DiskIn K c H d M t qs F) {i : Nat} (hi : i < F.length) {s' : Addr} {f' : FS} (keep : ∀ a o, a ≠ (qs.getD i dQ).1 → a ≠ (qs.getD i dQ).2 → H a = some o → H' a = some o) (m : Same (gh H M) (gh H' M')) (sub : ∀ a ∈ M, a ∈ M') (oc : OccN H' M') (hs : s' = (qs.getD i dQ).2 ∨ H s' = none) (ms : s' ∈ M')
    (at' : FileAt K c H' (gh H' M') (qs.getD i dQ).1 s' f') : DiskIn K c H' d M' t (qs.set i ((qs.getD i dQ).1, s')) (F.set i f') := by
  have hl := D.len
  have hq : i < qs.length := by omega
  obtain ⟨ok, dx, ed⟩ := D.ins
  obtain ⟨dx1, fs1, e1, l1⟩ := (D.at hi).ex1
  obtain ⟨ms2, e2⟩ := (D.at hi).ex2
  have m1 : (qs.set i ((qs.getD i dQ).1, s')).map (·.1) = qs.map (·.1) := by
    rw [List.map_set]
    refine List.ext_getElem (by simp) fun j h1 h2 => ?_
    rw [List.getElem_set]
    split
    · rename_i e; subst e
      rw [List.getElem_map, List.getD_eq_getElem?_getD, List.getElem?_eq_getElem hq]; rfl
    · rfl
  have nt : t ≠ (qs.getD i dQ).2 := fun z => by
    have := (List.nodup_cons.mp D.nd2).1
    exact this (List.mem_map.mpr ⟨qs.getD i dQ, getD_mem' dQ hq, z.symm⟩)
  refine ⟨⟨ok, dx, keep _ _ (fun z => ?_) (fun z => ?_) ed⟩, ?_, ?_, by rw [m1]; exact D.nd1, ?_, sub _ D.md, sub _ D.mt, fun q h => ?_, oc⟩
  · rw [← z, ed] at e1; injection e1 with e1; injection e1 with _ _ e1; rw [← e1] at l1; cases l1
  · rw [← z, ed] at e2; cases e2
  · rw [m1]
    refine keep _ _ (fun z => ?_) nt D.tb
    rw [← z, D.tb] at e1; cases e1
  · refine All2.ofD dQ dFS (by simp [hl]) fun j hj => ?_
    rw [List.length_set] at hj
    rw [setD hq, setD hi]
    by_cases e : i = j
    · subst e; rw [if_pos rfl, if_pos rfl]; exact at'
    · rw [if_neg e, if_neg e]
      obtain ⟨dx3, fs3, e3, l3⟩ := (D.at hj).ex1
      obtain ⟨ms4, e4⟩ := (D.at hj).ex2
      have n1 : (qs.getD j dQ).1 ≠ (qs.getD i dQ).1 := by rw [← mapD1, ← mapD1]; exact nodup_at D.nd1 (by simp; omega) (by simp; omega) (Ne.symm e)
      have n2 : (qs.getD j dQ).2 ≠ (qs.getD i dQ).2 := by rw [← mapD2, ← mapD2]; exact nodup_at (List.nodup_cons.mp D.nd2).2 (by simp; omega) (by simp; omega) (Ne.symm e)
      refine (D.at hj).lks m (fun o h => keep _ _ n1 (fun z => ?_) h) (fun o h => keep _ _ (fun z => ?_) n2 h)
      · rw [← z, e3] at e2; cases e2
      · rw [← z, e4] at e1; cases e1
  · rcases hs with rfl | hs
    · have m2 : (qs.set i ((qs.getD i dQ).1, (qs.getD i dQ).2)).map (·.2) = qs.map (·.2) := by
        rw [List.map_set]
        refine List.ext_getElem (by simp) fun j h1 h2 => ?_
        rw [List.getElem_set]
        split
        · rename_i e; subst e
          rw [List.getElem_map, List.getD_eq_getElem?_getD, List.getElem?_eq_getElem hq]; rfl
        · rfl
      rw [m2]; exact D.nd2
    · have all : ∀ x ∈ t :: qs.map (·.2), ∃ o, H x = some o := fun x hx => by
        rcases List.mem_cons.mp hx with rfl | hx
        · exact ⟨_, D.tb⟩
        · obtain ⟨q, hq, rfl⟩ := List.mem_map.mp hx
          obtain ⟨o, _, e⟩ := D.oc _ (D.mq q hq).2
          exact ⟨o, e⟩
      have ns : s' ∉ t :: qs.map (·.2) := fun z => by obtain ⟨o, e⟩ := all _ z; rw [hs] at e; cases e
      rw [List.map_set]
      have nd2 := List.nodup_cons.mp D.nd2
      refine List.nodup_cons.mpr ⟨fun z => ?_, ?_⟩
      · rcases List.mem_or_eq_of_mem_set z with z | z
        · exact nd2.1 z
        · exact ns (by rw [← show t = s' from z]; exact List.mem_cons_self ..)
      · refine List.pairwise_iff_getElem.mpr fun a b ha hb hab => ?_
        have base := List.pairwise_iff_getElem.mp nd2.2
        rw [List.length_set] at ha hb
        have mem : ∀ k (hk : k < (qs.map (·.2)).length), (qs.map (·.2))[k] ≠ s' := fun k hk z => ns (List.mem_cons_of_mem _ (by rw [← z]; exact List.getElem_mem hk))
        rw [List.getElem_set, List.getElem_set]
        by_cases ea : i = a
        · rw [if_pos ea, if_neg (by omega)]
          exact fun z => mem b hb z.symm
        · rw [if_neg ea]
          by_cases eb : i = b
          · rw [if_pos eb]; exact mem a ha
          · rw [if_neg eb]; exact base a b ha hb hab
  · rcases List.mem_or_eq_of_mem_set h with h | h
    · exact ⟨sub _ (D.mq q h).1, sub _ (D.mq q h).2⟩
    · subst h
      exact ⟨sub _ (D.mq _ (getD_mem' dQ hq)).1, ms⟩
end

def fiZ (F : List FS) (n : Str) : Nat := F.findIdx fun f => decide (f.1 = n)
theorem fi_eq {F : List FS} {n : Str} {i : Nat} (hi : i < F.length) (no : ∀ j, j < i → (F.getD j dFS).1 ≠ n) (e : (F.getD i dFS).1 = n) : fiZ F n = i := by
  unfold fiZ
  rw [List.findIdx_eq hi]
  refine ⟨?_, fun j hj => ?_⟩
  · rw [List.getD_eq_getElem?_getD, List.getElem?_eq_getElem hi] at e; exact decide_eq_true e
  · have := no j hj
    rw [List.getD_eq_getElem?_getD, List.getElem?_eq_getElem (by omega)] at this
    exact decide_eq_false this
theorem fi_no {F : List FS} {n : Str} (no : ∀ j, j < F.length → (F.getD j dFS).1 ≠ n) : fiZ F n = F.length := by
  unfold fiZ
  rw [List.findIdx_eq_length]
  intro f hf
  obtain ⟨j, hj, rfl⟩ := List.getElem_of_mem hf
  have := no j hj
  rw [List.getD_eq_getElem?_getD, List.getElem?_eq_getElem hj] at this
  exact decide_eq_false this
theorem fi_le {F : List FS} {n : Str} : fiZ F n ≤ F.length := List.findIdx_le_length
theorem fi_at {F : List FS} {n : Str} (h : fiZ F n < F.length) : (F.getD (fiZ F n) dFS).1 = n := by
  unfold fiZ at *
  have := List.findIdx_getElem (p := fun f : FS => decide (f.1 = n)) (xs := F) (w := h)
  rw [List.getD_eq_getElem?_getD, List.getElem?_eq_getElem h]
  simpa using this
def apF (f : FS) (st : St0) : FS := (f.1, f.2.1, f.2.2 ++ [st])
def contZ (F : List FS) (n : Str) : St0 := if fiZ F n < F.length then curZ (F.getD (fiZ F n) dFS) else none
def writeZ (F : List FS) (n : Str) (st : St0) : List FS := if fiZ F n < F.length then F.set (fiZ F n) (apF (F.getD (fiZ F n) dFS) st) else F ++ [(n, none, [st])]
def syncF (f : FS) : FS := (f.1, curZ f, [])
def BdF (F : List FS) : Prop := F.length ≤ 1000 ∧ ∀ f ∈ F, f.2.2.length ≤ 1000
abbrev N_File_init : List Str := ["self", "name"]
-- File.__init__(self, name): slots 0:self 1:name
def T_File_init (K : PySem.W.Frag) : TS :=
    (tSeq (sFld K (tVar 0) (tVar 1) "name")
    (tSeq (sFld K (tVar 0) (tC .non) "sure")
    (sFld K (tVar 0) (tLst tNil) "since")))

def sp_File_init (K : PySem.W.Frag) (c : CEnv) : Sp := fun vs H Q _ => ∃ (p dx : Addr) (n : Str), vs = [.ref p, .str n] ∧ ClsOk K c "File" FIL ∧ H p = some (.ins (c.cls "File") dx []) ∧
  ∀ s H', H s = none → Same (hid H [p]) (hid H' [p]) → InsAt K c H' p "File" (filF n .non s) → H' s = some (.lst []) → Q .non H'
theorem w_File_init {K : PySem.W.Frag} {c : CEnv} : Wd (T_File_init K) N_File_init 2 (sp_File_init K c) := fun vs H Q E h => by
  obtain ⟨p, dx, n, rfl, ok, hp, q⟩ := h
  refine ⟨rfl, ?_⟩
  show T_File_init K _ [some (.ref p), some (.str n)] H
  unfold T_File_init
  walk_at "zz"
  rename_i s hs
  have hs0 : H s = none := by
    cases e : H s with
    | none => rfl
    | some o =>
      have : upd (upd H p (.ins (c.cls "File") dx (putF "name" (.str n) []))) p (.ins (c.cls "File") dx (putF "sure" .non (putF "name" (.str n) []))) s ≠ none := by
        by_cases z : s = p
        · subst z; rw [upd_same]; exact fun z => by cases z
        · rw [upd_ne z, upd_ne z, e]; exact fun z => by cases z
      exact absurd hs this
  have nsp : s ≠ p := fun z => by rw [z, hp] at hs0; cases hs0
  refine q s _ hs0 ?_ ⟨ok, dx, upd_same⟩ (lk_ne nsp upd_same)
  have h1 : ∀ {H1 : Hp} {o : HO}, hid (upd H1 p o) [p] = hid H1 [p] := fun {H1 o} => hid_put (by simp)
  rw [h1]
  refine Same.trans ?_ (hid_same (Same.new hs (Same.refl _)))
  rw [h1, h1]; exact Same.refl _
abbrev N_Disk_init : List Str := ["self"]
-- Disk.__init__(self): slots 0:self
def T_Disk_init (K : PySem.W.Frag) : TS :=
    (sFld K (tVar 0) (tLst tNil) "table")

def sp_Disk_init (K : PySem.W.Frag) (c : CEnv) : Sp := fun vs H Q _ => ∃ (d dx : Addr), vs = [.ref d] ∧ ClsOk K c "Disk" ["table"] ∧ H d = some (.ins (c.cls "Disk") dx []) ∧
  ∀ t H', H t = none → Same (hid H [d]) (hid H' [t, d]) → DiskIn K c H' d [t, d] t [] [] → Q .non H'
theorem w_Disk_init {K : PySem.W.Frag} {c : CEnv} : Wd (T_Disk_init K) N_Disk_init 1 (sp_Disk_init K c) := fun vs H Q E h => by
  obtain ⟨d, dx, rfl, ok, hd, q⟩ := h
  refine ⟨rfl, ?_⟩
  show T_Disk_init K _ [some (.ref d)] H
  unfold T_Disk_init
  walk_at "zz"
  rename_i t ht
  have e1 : upd H t (.lst []) t = some (.lst []) := upd_same
  have ntd : t ≠ d := fun z => by rw [z, hd] at ht; cases ht
  have ht2 : upd (upd H t (.lst [])) d (.ins (c.cls "Disk") dx (putF "table" (.ref t) [])) t = some (.lst []) := lk_ne ntd e1
  refine q t _ ht ?_ ⟨⟨ok, dx, upd_same⟩, ht2, .nil, List.nodup_nil, by simp, by simp, by simp, (fun q h => nomatch h), ?_⟩
  · have s1 : Same (hid H [d]) (hid (upd H t (.lst [])) [t, d]) := hid_ofS ht (Same.new ht (Same.refl _))
    rw [hid_put (by simp)]
    exact s1
  · exact OccN.cons (NotSt.refs (ps := [])) ht2 (OccN.cons NotSt.ins upd_same (fun _ h => by cases h))
abbrev N_Disk_find : List Str := ["self", "name", "file"]
-- Disk.find(self, name): slots 0:self 1:name 2:file
def T_Disk_find_b1 (K : PySem.W.Frag) : TS :=
    (tIfS (tTest (tOp (uEq K) (tFld K (tVar 2) "name") (tVar 1))) (tRet (tVar 2)) tNext)
def T_Disk_find (K : PySem.W.Frag) : TS :=
    (tSeq (tFor (iSq K (tFld K (tVar 0) "table")) (gName 2) (T_Disk_find_b1 K))
    (tRet (tC .non)))

def sp_Disk_find (K : PySem.W.Frag) (c : CEnv) : Sp := fun vs H Q _ => ∃ (d t : Addr) (n : Str) (M : List Addr) (qs : List (Addr × Addr)) (F : List FS), vs = [.ref d, .str n] ∧ DiskIn K c H d M t qs F ∧ (fiZ F n < F.length → Q (.ref (qs.getD (fiZ F n) dQ).1) H) ∧ (¬ fiZ F n < F.length → Q .non H)
theorem Disk_find_c {K : PySem.W.Frag} {c : CEnv} {d t : Addr} {n : Str} {M : List Addr} {qs : List (Addr × Addr)} {F : List FS} {H : Hp} {Q : VK} {E : XK} (D : DiskIn K c H d M t qs F) (q1 : fiZ F n < F.length → Q (.ref (qs.getD (fiZ F n) dQ).1) H) (q2 : ¬ fiZ F n < F.length → Q .non H) : sp_Disk_find K c [.ref d, .str n] H Q E := ⟨d, t, n, M, qs, F, rfl, D, q1, q2⟩
theorem w_Disk_find {K : PySem.W.Frag} {c : CEnv} : Wd (T_Disk_find K) N_Disk_find 2 (sp_Disk_find K c) := fun vs H Q E h => by
  obtain ⟨d, t, n, M, qs, F, rfl, D, q1, q2⟩ := h
  have hl := D.len
  obtain ⟨ok, dx, ed⟩ := D.ins
  replace ok : ClsOk K c "Disk" ["table"] := ok
  refine ⟨rfl, ?_⟩
  show T_Disk_find K _ [some (.ref d), some (.str n), none] H
  unfold T_Disk_find
  walk_at "zz"
  clear ok
  refine z_forL (SqL.of D.tb) (fun i σ H' => H' = H ∧ (∀ j, j < i → (F.getD j dFS).1 ≠ n) ∧ ∃ v, σ = [some (.ref d), some (.str n), v]) ⟨rfl, fun j hj => absurd hj (Nat.not_lt_zero _), _, rfl⟩ (fun i σ' H' _ z => z.1 ▸ SqL.of D.tb) ?_ ?_
  · rintro i x σ H' hx ⟨rfl, no, v, rfl⟩
    obtain ⟨hi, rfl⟩ := map_ref hx
    rw [List.length_map] at hi
    have hi2 : i < F.length := by omega
    have fa := D.at hi2
    rw [mapD1]
    have fe := fi_eq (n := n) hi2 no
    generalize hF : F.getD i dFS = f at *
    obtain ⟨fn, fs, fi⟩ := f
    obtain ⟨v0, ms, ⟨ok, dx1, e⟩, _, _, _⟩ := fa
    replace e : H' (qs.getD i dQ).1 = some (.ins (c.cls "File") dx1 (filF fn v0 (qs.getD i dQ).2)) := e
    replace ok : ClsOk K c "File" FIL := ok
    unfold T_Disk_find_b1
    walk_at "zz"
    by_cases c1 : fn = n
    · rw [decide_eq_true c1]
      walk_at "zx"
      have := fe c1
      rw [this] at q1
      exact q1 hi2
    · rw [decide_eq_false c1]
      walk_at "zx"
      refine ⟨rfl, fun j hj => ?_, _, rfl⟩
      by_cases ej : j = i
      · subst ej; rw [hF]; exact c1
      · exact no j (by omega)
  · rintro σ H' ⟨rfl, no, v, rfl⟩
    have := fi_no (F := F) (n := n) (fun j hj => no j (by rw [List.length_map, List.length_map]; omega))
    walk_at "zz"
    exact q2 (by omega)
abbrev N_Disk_contents : List Str := ["self", "name", "file"]
-- Disk.contents(self, name): slots 0:self 1:name 2:file
def T_Disk_contents (K : PySem.W.Frag) (c : CEnv) : TS :=
    (tSeq (tAsg (tMt c "Disk" "find" (sp_Disk_find K c) (tVar 0) (tCons (tVar 1) tNil)) (gName 2))
    (tRet (tIf (tTest (tOp uIs (tVar 2) (tC .non))) (tC .non) (tMt c "File" "current" (sp_File_current K c) (tVar 2) tNil))))

def sp_Disk_contents (K : PySem.W.Frag) (c : CEnv) : Sp := fun vs H Q _ => ∃ (d t : Addr) (n : Str) (M : List Addr) (qs : List (Addr × Addr)) (F : List FS), vs = [.ref d, .str n] ∧ DiskIn K c H d M t qs F ∧ ∀ v, OAt (gh H M) v (contZ F n) → Q v H
theorem w_Disk_contents {K : PySem.W.Frag} {c : CEnv} : Wd (T_Disk_contents K c) N_Disk_contents 2 (sp_Disk_contents K c) := fun vs H Q E h => by
  obtain ⟨d, t, n, M, qs, F, rfl, D, q⟩ := h
  refine ⟨rfl, ?_⟩
  show T_Disk_contents K c _ [some (.ref d), some (.str n), none] H
  unfold T_Disk_contents
  obtain ⟨ok, dx, ed⟩ := D.ins
  walk_at "zz"
  refine ⟨_, _, _, rfl, ed, rfl, ?_⟩
  walk_at "zz"
  unfold contZ at q
  refine Disk_find_c D (fun h => ?_) (fun h => ?_)
  · rw [if_pos h] at q
    have fa := D.at h
    have fa0 := fa
    obtain ⟨v0, ms, ⟨ok1, dx1, e⟩, _, _, _⟩ := fa
    walk_at "zz"
    try rw [decide_eq_false (show ¬ V.ref (qs.getD (fiZ F n) dQ).1 = .non from fun z => by cases z)]
    walk_at "zx"
    refine ⟨_, _, _, rfl, e, rfl, ?_⟩
    walk_at "zz"
    refine File_current_c fa0 fun v ov => q v ov
  · rw [if_neg h] at q
    walk_at "zz"
    try rw [decide_eq_true (show V.non = .non from rfl)]
    walk_at "zx"
    exact q _ rfl

theorem All2.impM {α β : Type} {R S : α → β → Prop} {as : List α} {bs : List β} (f : ∀ a, a ∈ as → ∀ b, R a b → S a b) (h : All2 R as bs) : All2 S as bs := by
  induction h with
  | nil => exact .nil
  | cons h t ih => exact .cons (f _ (List.mem_cons_self ..) _ h) (ih fun a ha => f a (List.mem_cons_of_mem _ ha))
section
variable {K : PySem.W.Frag} {c : CEnv} {H H' : Hp} {d t : Addr} {M M' : List Addr} {qs : List (Addr × Addr)} {F : List FS}
/-- one more file -/
theorem DiskIn.add (D : DiskIn K c H d M t qs F) {p s : Addr} {n : Str} (s12 : Same H H') (hp : H p = none) (hs : H s = none) (nps : p ≠ s) (ip : InsAt K c H' p "File" (filF n .non s)) (es : H' s = some (.lst [])) :
    DiskIn K c (upd H' t (.lst (((qs ++ [(p, s)]).map (·.1)).map V.ref))) d (p :: s :: M) t (qs ++ [(p, s)]) (F ++ [(n, none, [])]) := by
  obtain ⟨ok, dx, ed⟩ := D.ins
  have ed' := s12 _ _ ed
  have et' := s12 _ _ D.tb
  have old : ∀ x ∈ t :: qs.map (·.2), ∃ o, H x = some o := fun x hx => by
    rcases List.mem_cons.mp hx with rfl | hx
    · exact ⟨_, D.tb⟩
    · obtain ⟨q, hq, rfl⟩ := List.mem_map.mp hx
      obtain ⟨o, _, e⟩ := D.oc _ (D.mq q hq).2
      exact ⟨o, e⟩
  have ns : s ∉ t :: qs.map (·.2) := fun z => by obtain ⟨o, e⟩ := old _ z; rw [hs] at e; cases e
  have np : p ∉ qs.map (·.1) := fun z => by
    obtain ⟨q, hq, rfl⟩ := List.mem_map.mp z
    obtain ⟨o, _, e⟩ := D.oc _ (D.mq q hq).1
    rw [hp] at e; cases e
  have npt : p ≠ t := fun z => by rw [z, D.tb] at hp; cases hp
  have nst : s ≠ t := fun z => ns (by rw [z]; exact List.mem_cons_self ..)
  have m : Same (gh H M) (gh (upd H' t (.lst (((qs ++ [(p, s)]).map (·.1)).map V.ref))) (p :: s :: M)) := by
    have m1 : Same (gh H M) (gh H' (p :: s :: M)) := by
      refine gh_hid fun a o e => ?_
      have na : a ∉ M := fun z => by rw [hid_in z] at e; cases e
      rw [hid_out na] at e
      refine hid_lk (fun z => ?_) (s12 _ _ e)
      rcases List.mem_cons.mp z with rfl | z
      · rw [hp] at e; cases e
      · rcases List.mem_cons.mp z with rfl | z
        · rw [hs] at e; cases e
        · exact na z
    rw [gh_put (by simp [D.mt])]
    exact m1
  refine ⟨⟨ok, dx, lk_df ed' et' (fun z => by cases z)⟩, upd_same, ?_, ?_, ?_, by simp [D.md], by simp [D.mt], fun q h => ?_, ?_⟩
  · obtain ⟨ok1, dx1, e1⟩ := ip
    refine (All2.impM (fun q hq f h => ?_) D.fl).app ⟨.non, [], ⟨ok1, dx1, lk_ne npt e1⟩, lk_ne nst es, rfl, .nil⟩
    refine h.lks m (fun o e => ?_) (fun o e => ?_)
    · obtain ⟨dx3, fs3, e3, l3⟩ := h.ex1
      have e4 := s12 _ _ e3
      rw [e3] at e
      rw [← e]
      exact lk_df e4 et' (fun z => by cases z)
    · have nq : q.2 ≠ t := fun z => (List.nodup_cons.mp D.nd2).1 (List.mem_map.mpr ⟨q, hq, z⟩)
      exact lk_ne nq (s12 _ _ e)
  · rw [List.map_append]
    refine List.nodup_append.mpr ⟨D.nd1, by simp, fun a ha b hb => ?_⟩
    rw [List.mem_singleton.mp hb]; exact fun z => np (by rw [← show a = p from z]; exact ha)
  · have nd2 := List.nodup_cons.mp D.nd2
    rw [List.map_append]
    refine List.nodup_cons.mpr ⟨fun z => ?_, List.nodup_append.mpr ⟨nd2.2, by simp, fun a ha b hb => ?_⟩⟩
    · rcases List.mem_append.mp z with z | z
      · exact nd2.1 z
      · exact nst (List.mem_singleton.mp z).symm
    · rw [List.mem_singleton.mp hb]; exact fun z => ns (List.mem_cons_of_mem _ (by rw [← show a = s from z]; exact ha))
  · rcases List.mem_append.mp h with h | h
    · have := D.mq q h; simp [this.1, this.2]
    · rw [List.mem_singleton.mp h]; simp
  · refine OccN.put NotSt.refs (OccN.cons NotSt.ins ip.2.choose_spec (OccN.cons (NotSt.refs (ps := [])) es (D.oc.same s12)))
end
abbrev N_Disk_write : List Str := ["self", "name", "state", "file"]
-- Disk.write(self, name, state): slots 0:self 1:name 2:state 3:file
def T_Disk_write (K : PySem.W.Frag) (c : CEnv) : TS :=
    (tSeq (tAsg (tMt c "Disk" "find" (sp_Disk_find K c) (tVar 0) (tCons (tVar 1) tNil)) (gName 3))
    (tCut (tIfS (tTest (tOp uIs (tVar 3) (tC .non))) (tSeq (tAsg (tMk K c "File" ["name", "sure", "since"] (sp_File_init K c) (tCons (tVar 1) tNil)) (gName 3))
    (tDrop (tBM K "list" rAppend (tFld K (tVar 0) "table") (tCons (tVar 3) tNil)))) tNext)
    (tDrop (tBM K "list" rAppend (tFld K (tVar 3) "since") (tCons (tVar 2) tNil)))))

def sp_Disk_write (K : PySem.W.Frag) (c : CEnv) : Sp := fun vs H Q _ => ∃ (d t : Addr) (n : Str) (v : V) (M : List Addr) (qs : List (Addr × Addr)) (F : List FS) (st : St0), vs = [.ref d, .str n, v] ∧ DiskIn K c H d M t qs F ∧ OAt (gh H M) v st ∧ BdF F ∧ ∀ H' M' qs', MvR H M H' M' → DiskIn K c H' d M' t qs' (writeZ F n st) → Q .non H'
theorem Disk_write_c {K : PySem.W.Frag} {c : CEnv} {d t : Addr} {n : Str} {v : V} {M : List Addr} {qs : List (Addr × Addr)} {F : List FS} {st : St0} {H : Hp} {Q : VK} {E : XK} (D : DiskIn K c H d M t qs F) (ov : OAt (gh H M) v st) (bd : BdF F) (q : ∀ H' M' qs', MvR H M H' M' → DiskIn K c H' d M' t qs' (writeZ F n st) → Q .non H') : sp_Disk_write K c [.ref d, .str n, v] H Q E := ⟨d, t, n, v, M, qs, F, st, rfl, D, ov, bd, q⟩
theorem w_Disk_write {K : PySem.W.Frag} {c : CEnv} : Wd (T_Disk_write K c) N_Disk_write 3 (sp_Disk_write K c) := fun vs H Q E h => by
  obtain ⟨d, t, n, v, M, qs, F, st, rfl, D, ov, bd, q⟩ := h
  have hl := D.len
  refine ⟨rfl, ?_⟩
  show T_Disk_write K c _ [some (.ref d), some (.str n), some v, none] H
  unfold T_Disk_write
  obtain ⟨okd, dx, ed⟩ := D.ins
  replace okd : ClsOk K c "Disk" ["table"] := okd
  walk_at "zz"
  refine ⟨_, _, _, rfl, ed, rfl, ?_⟩
  walk_at "zz"
  have fin : ∀ (σ' : L2.St) (H' : Hp), (∃ (M' : List Addr) (qs' : List (Addr × Addr)) (F' : List FS) (j : Nat), σ' = [some (.ref d), some (.str n), some v, some (.ref (qs'.getD j dQ).1)] ∧ MvR H M H' M' ∧ DiskIn K c H' d M' t qs' F' ∧ j < F'.length ∧ F'.set j (apF (F'.getD j dFS) st) = writeZ F n st ∧ (F'.getD j dFS).2.2.length ≤ 1000) →
      tDrop (tBM K "list" rAppend (tFld K (tVar 3) "since") (tCons (tVar 2) tNil)) { nx := fun _ H' => Q .non H', rt := Q } σ' H' := by
    rintro σ' H' ⟨M', qs', F', j, rfl, mv, D', hj, hw, hb⟩
    have hl' := D'.len
    have fa := D'.at hj
    have mem := D'.mq _ (getD_mem' dQ (show j < qs'.length by omega))
    have ov' := ov.same mv.gh
    rw [← hw] at q
    generalize hF : F'.getD j dFS = f at *
    obtain ⟨fn, fs, fi⟩ := f
    obtain ⟨v0, ms, ⟨ok1, dx1, e1⟩, es, o1, o2⟩ := fa
    replace e1 : H' (qs'.getD j dQ).1 = some (.ins (c.cls "File") dx1 (filF fn v0 (qs'.getD j dQ).2)) := e1
    replace ok1 : ClsOk K c "File" FIL := ok1
    have lms : ms.length = fi.length := All2.len o2
    have hb : fi.length ≤ 1000 := hb
    clear okd
    walk_at "zz"
    refine z_app es (by omega) ?_
    have o3 := (All2.app o2 ov')
    have hp2 : MvR H' M' (upd H' (qs'.getD j dQ).2 (.lst (ms ++ [v]))) M' := MvR.put mem.2 es (OAt.notRow o2)
    have eg : gh (upd H' (qs'.getD j dQ).2 (.lst (ms ++ [v]))) M' = gh H' M' := gh_put mem.2
    refine q _ _ _ (mv.trans hp2) (D'.set hj (fun a o h1 h2 e => lk_ne h2 e) (by rw [eg]; exact Same.refl _) (fun _ h => h) (D'.oc.put (OAt.notSt o3)) (.inl rfl) mem.2 ?_)
    rw [eg]
    exact ⟨v0, ms ++ [v], ⟨ok1, dx1, lk_df e1 es (fun z => by cases z)⟩, upd_same, o1, o3⟩
  refine Disk_find_c D (fun h => ?_) (fun h => ?_)
  · walk_at "zz"
    refine z_cut (fun σ' H' => ∃ (M' : List Addr) (qs' : List (Addr × Addr)) (F' : List FS) (j : Nat), σ' = [some (.ref d), some (.str n), some v, some (.ref (qs'.getD j dQ).1)] ∧ MvR H M H' M' ∧ DiskIn K c H' d M' t qs' F' ∧ j < F'.length ∧ F'.set j (apF (F'.getD j dFS) st) = writeZ F n st ∧ (F'.getD j dFS).2.2.length ≤ 1000) ?_ fin
    walk_at "zz"
    try rw [decide_eq_false (show ¬ V.ref (qs.getD (fiZ F n) dQ).1 = .non from fun z => by cases z)]
    walk_at "zx"
    exact ⟨M, qs, F, fiZ F n, rfl, MvR.refl, D, h, by unfold writeZ; rw [if_pos h], bd.2 _ (getD_mem' dFS h)⟩
  · walk_at "zz"
    refine z_cut (fun σ' H' => ∃ (M' : List Addr) (qs' : List (Addr × Addr)) (F' : List FS) (j : Nat), σ' = [some (.ref d), some (.str n), some v, some (.ref (qs'.getD j dQ).1)] ∧ MvR H M H' M' ∧ DiskIn K c H' d M' t qs' F' ∧ j < F'.length ∧ F'.set j (apF (F'.getD j dFS) st) = writeZ F n st ∧ (F'.getD j dFS).2.2.length ≤ 1000) ?_ fin
    walk_at "zz"
    try rw [decide_eq_true (show V.non = .non from rfl)]
    walk_at "zx"
    rintro okf p dxp hp hdx ne
    have sg : Same H (upd (upd H dxp (.own p)) p (.ins (c.cls "File") dxp [])) := Same.put hp (Same.new hdx (Same.refl _))
    refine ⟨p, dxp, n, rfl, okf, upd_same, fun s H2 hs s2 ip es => ?_⟩
    have s02 : Same H H2 := Same.trans (hidS1 hp sg) (Same.trans s2 hid_le)
    have hs0 : H s = none := by
      cases e : H s with
      | none => rfl
      | some o => rw [sg _ _ e] at hs; cases hs
    have nps : p ≠ s := fun z => by rw [← z, upd_same] at hs; cases hs
    have ed2 := s02 _ _ ed
    have et2 := s02 _ _ D.tb
    refine ⟨rfl, ?_⟩
    clear okf
    walk_at "zz"
    refine z_app et2 (by rw [List.length_map, List.length_map]; have := bd.1; omega) ?_
    have D3 := D.add s02 hp hs0 nps ip es
    have el : (qs.map (·.1)).map V.ref ++ [.ref p] = ((qs ++ [(p, s)]).map (·.1)).map V.ref := by simp
    rw [el]
    have hF : (F ++ [(n, none, [])]).getD F.length dFS = ((n, none, []) : FS) := by simp
    have hQ : (qs ++ [(p, s)]).getD F.length dQ = (p, s) := by rw [← hl]; simp
    refine ⟨p :: s :: M, qs ++ [(p, s)], F ++ [(n, none, [])], F.length, by rw [hQ], ⟨fun a h => by simp [h], ?_, fun a m r e => lk_df (s02 _ _ e) et2 (fun z => refs_notRow _ _ z.symm)⟩, D3, by simp, ?_, by rw [hF]; simp⟩
    · have m1 : Same (hid H M) (hid H2 (p :: s :: M)) := fun a o e => by
        have na : a ∉ M := fun z => by rw [hid_in z] at e; cases e
        rw [hid_out na] at e
        refine hid_lk (fun z => ?_) (s02 _ _ e)
        rcases List.mem_cons.mp z with rfl | z
        · rw [hp] at e; cases e
        · rcases List.mem_cons.mp z with rfl | z
          · rw [hs0] at e; cases e
          · exact na z
      rw [hid_put (by simp [D.mt])]; exact m1
    · rw [hF]
      unfold writeZ apF
      rw [if_neg h]
      simp

abbrev mapF (g : FS → FS) (F : List FS) (i : Nat) : List FS := (F.take i).map g ++ F.drop i
theorem mapF_at {g : FS → FS} {F : List FS} {i : Nat} (h : i < F.length) : (mapF g F i).getD i dFS = F.getD i dFS := by
  unfold mapF
  rw [List.getD_eq_getElem?_getD, List.getElem?_append_right (by simp; omega), List.getElem?_drop, List.getD_eq_getElem?_getD]
  simp; congr 2; omega
theorem mapF_s {g : FS → FS} {F : List FS} {i : Nat} (h : i < F.length) : (mapF g F i).set i (g (F.getD i dFS)) = mapF g F (i + 1) := by
  unfold mapF
  have lt : ((F.take i).map g).length = i := by simp; omega
  rw [List.set_append_right _ _ (by omega), lt, Nat.sub_self, List.drop_eq_getElem_cons h, List.set_cons_zero, take_dS dFS h, List.map_append, List.append_assoc]
  rfl
theorem mapF_len {g : FS → FS} {F : List FS} {i : Nat} : (mapF g F i).length = F.length := by unfold mapF; simp; omega
theorem set_m1 {qs : List (Addr × Addr)} {i : Nat} {s : Addr} : (qs.set i ((qs.getD i dQ).1, s)).map (·.1) = qs.map (·.1) := by
  rw [List.map_set]
  refine List.ext_getElem (by simp) fun j h1 h2 => ?_
  rw [List.getElem_set]
  split
  · rename_i e; subst e
    have hq : i < qs.length := by simpa using h2
    rw [List.getElem_map, List.getD_eq_getElem?_getD, List.getElem?_eq_getElem hq]; rfl
  · rfl
def crashF (cs : List Cut) (f : FS) : FS := let l := match cutOf f.1 cs with | none => curZ f | some x => leftZ f x.1 x.2; (f.1, f.2.1, if l = f.2.1 then [] else [l])
abbrev flD (f : FS) : PyData := .tuple [.str f.1, oD f.2.1, oD (curZ f)]
def filesZ (F : List FS) : List FS := F.filter fun f => !decide (curZ f = none) || !decide (f.2.1 = none)
theorem filesZ_take {F : List FS} {i : Nat} (h : i < F.length) : filesZ (F.take (i + 1)) = filesZ (F.take i) ++ (if (!decide (curZ (F.getD i dFS) = none) || !decide ((F.getD i dFS).2.1 = none)) = true then [F.getD i dFS] else []) := by
  unfold filesZ; rw [take_dS dFS h, List.filter_append, List.filter_cons, List.filter_nil]
theorem DiskIn.renew {K : PySem.W.Frag} {c : CEnv} {H H2 : Hp} {d t : Addr} {M : List Addr} {qs : List (Addr × Addr)} {F : List FS} (D : DiskIn K c H d M t qs F) {i : Nat} (hi : i < F.length) {s' dx : Addr} {n : Str} {v : V} {st : St0} {xs : List V} {l : List St0}
    (keep : ∀ a o, a ≠ (qs.getD i dQ).1 → H a = some o → H2 a = some o) (ok : ClsOk K c "File" FIL) (e2 : H2 (qs.getD i dQ).1 = some (.ins (c.cls "File") dx (filF n v s'))) (es : H2 s' = some (.lst xs)) (fresh : H s' = none) (ov : OAt (gh H2 (s' :: M)) v st) (os : All2 (OAt (gh H2 (s' :: M))) xs l) :
    DiskIn K c H2 d (s' :: M) t (qs.set i ((qs.getD i dQ).1, s')) (F.set i (n, st, l)) ∧ MvR H M H2 (s' :: M) := by
  have hl := D.len
  have mem := D.mq _ (getD_mem' dQ (show i < qs.length by omega))
  obtain ⟨dxp, fsp, ep0, _⟩ := (D.at hi).ex1
  have mv : MvR H M H2 (s' :: M) := ⟨fun a h => List.mem_cons_of_mem _ h, fun a o e => by
    have na : a ∉ M := fun z => by rw [hid_in z] at e; cases e
    rw [hid_out na] at e
    refine hid_lk (fun z => ?_) (keep a o (fun z => na (z ▸ mem.1)) e)
    rcases List.mem_cons.mp z with rfl | z
    · rw [fresh] at e; cases e
    · exact na z, fun a m r e => keep a _ (fun z => by rw [z, ep0] at e; cases e) e⟩
  have oc : OccN H2 (s' :: M) := fun a ha => by
    rcases List.mem_cons.mp ha with rfl | ha
    · exact ⟨_, OAt.notSt os, es⟩
    · by_cases z : a = (qs.getD i dQ).1
      · rw [z]; exact ⟨_, NotSt.ins, e2⟩
      · obtain ⟨o, n, e⟩ := D.oc a ha
        exact ⟨o, n, keep a o z e⟩
  exact ⟨D.set hi (fun a o h1 _ e => keep a o h1 e) mv.gh mv.sub oc (.inr fresh) (List.mem_cons_self ..) ⟨v, xs, ⟨ok, dx, e2⟩, es, ov, os⟩, mv⟩
theorem fresh_upd {H : Hp} {p s : Addr} {o : HO} (h : upd H p o s = none) : H s = none ∧ s ≠ p := by
  by_cases z : s = p
  · subst z; rw [upd_same] at h; cases h
  · rw [upd_ne z] at h; exact ⟨h, z⟩
abbrev N_Disk_sync : List Str := ["self", "file"]
-- Disk.sync(self): slots 0:self 1:file
def T_Disk_sync_b1 (K : PySem.W.Frag) (c : CEnv) : TS :=
    (tSeq (sFld K (tVar 1) (tMt c "File" "current" (sp_File_current K c) (tVar 1) tNil) "sure")
    (sFld K (tVar 1) (tLst tNil) "since"))
def T_Disk_sync (K : PySem.W.Frag) (c : CEnv) : TS :=
    (tFor (iSq K (tFld K (tVar 0) "table")) (gName 1) (T_Disk_sync_b1 K c))

def sp_Disk_sync (K : PySem.W.Frag) (c : CEnv) : Sp := fun vs H Q _ => ∃ (d t : Addr) (M : List Addr) (qs : List (Addr × Addr)) (F : List FS), vs = [.ref d] ∧ DiskIn K c H d M t qs F ∧ ∀ H' M' qs', MvR H M H' M' → DiskIn K c H' d M' t qs' (F.map syncF) → Q .non H'
theorem w_Disk_sync {K : PySem.W.Frag} {c : CEnv} : Wd (T_Disk_sync K c) N_Disk_sync 1 (sp_Disk_sync K c) := fun vs H Q E h => by
  obtain ⟨d, t, M, qs, F, rfl, D, q⟩ := h
  have hl := D.len
  obtain ⟨okd, dxd, ed⟩ := D.ins
  replace okd : ClsOk K c "Disk" ["table"] := okd
  refine ⟨rfl, ?_⟩
  show T_Disk_sync K c _ [some (.ref d), none] H
  unfold T_Disk_sync
  walk_at "zz"
  clear okd ed
  refine z_forL (SqL.of D.tb) (fun i σ H' => ∃ (M' : List Addr) (qs' : List (Addr × Addr)) (w : Option V), σ = [some (.ref d), w] ∧ MvR H M H' M' ∧ DiskIn K c H' d M' t qs' (mapF syncF F i) ∧ qs'.map (·.1) = qs.map (·.1)) ⟨M, qs, _, rfl, MvR.refl, by unfold mapF; simpa using D, rfl⟩ (fun i σ' H' _ z => by
    obtain ⟨M', qs', w, _, _, D', e⟩ := z
    have := D'.tb
    rw [e] at this; exact SqL.of this) ?_ ?_
  · rintro i x σ H' hx ⟨M', qs', w, rfl, mv, D', eq⟩
    obtain ⟨hi, rfl⟩ := map_ref hx
    rw [List.length_map] at hi
    have hi2 : i < F.length := by omega
    have hi3 : i < (mapF syncF F i).length := by rw [mapF_len]; exact hi2
    have hl' := D'.len
    have fa := D'.at hi3
    have mem := D'.mq _ (getD_mem' dQ (show i < qs'.length by omega))
    rw [mapF_at hi2] at fa
    rw [← eq, mapD1]
    have fa0 := fa
    have hs := mapF_s (g := syncF) hi2
    generalize F.getD i dFS = f at *
    obtain ⟨fn, fs, fi⟩ := f
    obtain ⟨v0, ms, ⟨ok1, dx1, e1⟩, es, o1, o2⟩ := fa
    replace e1 : H' (qs'.getD i dQ).1 = some (.ins (c.cls "File") dx1 (filF fn v0 (qs'.getD i dQ).2)) := e1
    replace ok1 : ClsOk K c "File" FIL := ok1
    unfold T_Disk_sync_b1
    walk_at "zz"
    refine ⟨_, _, _, rfl, e1, rfl, ?_⟩
    walk_at "zz"
    refine File_current_c fa0 fun v ov => ?_
    walk_at "zz"
    rw [show putF "sure" v (filF fn v0 (qs'.getD i dQ).2) = filF fn v (qs'.getD i dQ).2 from rfl]
    rename_i s' hs'
    have e2 : upd H' (qs'.getD i dQ).1 (.ins (c.cls "File") dx1 (filF fn v (qs'.getD i dQ).2)) (qs'.getD i dQ).1 = some (.ins (c.cls "File") dx1 (filF fn v (qs'.getD i dQ).2)) := upd_same
    try rw [show putF "sure" v (filF fn v0 (qs'.getD i dQ).2) = filF fn v (qs'.getD i dQ).2 from rfl] at hs'
    obtain ⟨fs', nsp⟩ := fresh_upd hs'
    rw [show putF "since" (V.ref s') (filF fn v (qs'.getD i dQ).2) = filF fn v s' from rfl]
    have keep : ∀ a o, a ≠ (qs'.getD i dQ).1 → H' a = some o → (upd (upd (upd H' (qs'.getD i dQ).1 (.ins (c.cls "File") dx1 (filF fn v (qs'.getD i dQ).2))) s' (.lst [])) (qs'.getD i dQ).1 (.ins (c.cls "File") dx1 (filF fn v s'))) a = some o := fun a o h e =>
      lk_ne h (lk_ne (fun z => by rw [z, fs'] at e; cases e) (lk_ne h e))
    have es2 : (upd (upd (upd H' (qs'.getD i dQ).1 (.ins (c.cls "File") dx1 (filF fn v (qs'.getD i dQ).2))) s' (.lst [])) (qs'.getD i dQ).1 (.ins (c.cls "File") dx1 (filF fn v s'))) s' = some (.lst []) := lk_ne nsp upd_same
    have ep2 : (upd (upd (upd H' (qs'.getD i dQ).1 (.ins (c.cls "File") dx1 (filF fn v (qs'.getD i dQ).2))) s' (.lst [])) (qs'.getD i dQ).1 (.ins (c.cls "File") dx1 (filF fn v s'))) (qs'.getD i dQ).1 = some (.ins (c.cls "File") dx1 (filF fn v s')) := upd_same
    generalize (upd (upd (upd H' (qs'.getD i dQ).1 (.ins (c.cls "File") dx1 (filF fn v (qs'.getD i dQ).2))) s' (.lst [])) (qs'.getD i dQ).1 (.ins (c.cls "File") dx1 (filF fn v s'))) = H2 at *
    have m2 : Same (gh H' M') (gh H2 (s' :: M')) := gh_hid fun a o e => by
      have na : a ∉ M' := fun z => by rw [hid_in z] at e; cases e
      rw [hid_out na] at e
      refine hid_lk (fun z => ?_) (keep a o (fun z => na (z ▸ mem.1)) e)
      rcases List.mem_cons.mp z with rfl | z
      · rw [fs'] at e; cases e
      · exact na z
    obtain ⟨D2, mv2⟩ := D'.renew hi3 keep ok1 ep2 es2 fs' (ov.same m2) .nil
    have hs : (mapF syncF F i).set i (fn, curZ (fn, fs, fi), []) = mapF syncF F (i + 1) := hs
    rw [hs] at D2
    exact ⟨_, _, _, rfl, mv.trans mv2, D2, set_m1⟩
  · rintro σ H' ⟨M', qs', w, rfl, mv, D', eq⟩
    rw [List.length_map, List.length_map, hl] at D'
    unfold mapF at D'
    rw [List.take_length, List.drop_length, List.append_nil] at D'
    exact q _ _ _ mv D'
abbrev N_Disk_crash : List Str := ["self", "cuts", "file", "cut", "left"]
-- Disk.crash(self, cuts): slots 0:self 1:cuts 2:file 3:cut 4:left
def T_Disk_crash_b1 (K : PySem.W.Frag) (c : CEnv) : TS :=
    (tSeq (tAsg (tCal (sp_cut_of K) (tCons (tVar 1) (tCons (tFld K (tVar 2) "name") tNil))) (gName 3))
    (tSeq (tAsg (tIf (tTest (tOp uIs (tVar 3) (tC .non))) (tMt c "File" "current" (sp_File_current K c) (tVar 2) tNil) (tCal (sp_left_of K c) (tCons (tVar 2) (tCons (tOp (uIx K) (tVar 3) (tC (.int 0))) (tCons (tOp (uIx K) (tVar 3) (tC (.int 1))) tNil))))) (gName 4))
    (sFld K (tVar 2) (tIf (tTest (tOp (uEq K) (tVar 4) (tFld K (tVar 2) "sure"))) (tLst tNil) (tLst (tCons (tVar 4) tNil))) "since")))
def T_Disk_crash (K : PySem.W.Frag) (c : CEnv) : TS :=
    (tFor (iSq K (tFld K (tVar 0) "table")) (gName 2) (T_Disk_crash_b1 K c))

def sp_Disk_crash (K : PySem.W.Frag) (c : CEnv) : Sp := fun vs H Q _ => ∃ (d t cu : Addr) (M : List Addr) (qs : List (Addr × Addr)) (F : List FS) (cs : List Cut), vs = [.ref d, .ref cu] ∧ DiskIn K c H d M t qs F ∧ Dp K (gh H M) (.ref cu) (.list (cs.map cutD)) ∧ cs.length ≤ 1000 ∧ (∀ x ∈ cs, 0 ≤ x.2.2) ∧ BdF F ∧ ∀ H' M' qs', MvR H M H' M' → DiskIn K c H' d M' t qs' (F.map (crashF cs)) → Q .non H'
theorem cutOf_mem {n : Str} : ∀ {cs : List Cut} {x : Int × Int}, cutOf n cs = some x → ∃ y ∈ cs, y.2 = x
  | [], _, h => by cases h
  | y :: r, x, h => by
    by_cases e : y.1 = n
    · have h : (if y.1 = n then some y.2 else cutOf n r) = some x := h
      rw [if_pos e] at h
      exact ⟨y, List.mem_cons_self .., Option.some.inj h⟩
    · have h : (if y.1 = n then some y.2 else cutOf n r) = some x := h
      rw [if_neg e] at h
      obtain ⟨z, hz, e2⟩ := cutOf_mem h
      exact ⟨z, List.mem_cons_of_mem _ hz, e2⟩
theorem w_Disk_crash {K : PySem.W.Frag} {c : CEnv} : Wd (T_Disk_crash K c) N_Disk_crash 2 (sp_Disk_crash K c) := fun vs H Q E h => by
  obtain ⟨d, t, cu, M, qs, F, cs, rfl, D, dcu, lcs, pcs, bd, q⟩ := h
  have hl := D.len
  obtain ⟨okd, dxd, ed⟩ := D.ins
  replace okd : ClsOk K c "Disk" ["table"] := okd
  refine ⟨rfl, ?_⟩
  show T_Disk_crash K c _ [some (.ref d), some (.ref cu), none, none, none] H
  unfold T_Disk_crash
  walk_at "zz"
  clear okd ed
  refine z_forL (SqL.of D.tb) (fun i σ H' => ∃ (M' : List Addr) (qs' : List (Addr × Addr)) (w2 w3 w4 : Option V), σ = [some (.ref d), some (.ref cu), w2, w3, w4] ∧ MvR H M H' M' ∧ DiskIn K c H' d M' t qs' (mapF (crashF cs) F i) ∧ qs'.map (·.1) = qs.map (·.1)) ⟨M, qs, _, _, _, rfl, MvR.refl, by unfold mapF; simpa using D, rfl⟩ (fun i σ' H' _ z => by
    obtain ⟨M', qs', w2, w3, w4, _, _, D', e⟩ := z
    have := D'.tb
    rw [e] at this; exact SqL.of this) ?_ ?_
  · rintro i x σ H' hx ⟨M', qs', w2, w3, w4, rfl, mv, D', eq⟩
    obtain ⟨hi, rfl⟩ := map_ref hx
    rw [List.length_map] at hi
    have hi2 : i < F.length := by omega
    have hi3 : i < (mapF (crashF cs) F i).length := by rw [mapF_len]; exact hi2
    have hl' := D'.len
    have fa := D'.at hi3
    have mem := D'.mq _ (getD_mem' dQ (show i < qs'.length by omega))
    rw [mapF_at hi2] at fa
    rw [← eq, mapD1]
    have hb := bd.2 _ (getD_mem' dFS hi2)
    have hs := mapF_s (g := crashF cs) hi2
    generalize F.getD i dFS = f at *
    -- what one turn does, once it is known what is left
    have rest : ∀ (v : V) (H1 : Hp) (w3 : Option V), Same H' H1 → OAt (gh H1 M') v (match cutOf f.1 cs with | none => curZ f | some x => leftZ f x.1 x.2) →
        sFld K (tVar 2) (tIf (tTest (tOp (uEq K) (tVar 4) (tFld K (tVar 2) "sure"))) (tLst tNil) (tLst (tCons (tVar 4) tNil))) "since" { nx := fun σ H' => ∃ (M' : List Addr) (qs2 : List (Addr × Addr)) (w2 w3 w4 : Option V), σ = [some (.ref d), some (.ref cu), w2, w3, w4] ∧ MvR H M H' M' ∧ DiskIn K c H' d M' t qs2 (mapF (crashF cs) F (i + 1)) ∧ qs2.map (·.1) = qs'.map (·.1), rt := Q, bk := fun _ H' => Q .non H', ct := fun σ H' => ∃ (M' : List Addr) (qs2 : List (Addr × Addr)) (w2 w3 w4 : Option V), σ = [some (.ref d), some (.ref cu), w2, w3, w4] ∧ MvR H M H' M' ∧ DiskIn K c H' d M' t qs2 (mapF (crashF cs) F (i + 1)) ∧ qs2.map (·.1) = qs'.map (·.1) } [some (.ref d), some (.ref cu), some (.ref (qs'.getD i dQ).1), w3, some v] H1 := by
      intro v H1 w3 s1 ov
      have D1 := D'.same s1
      have fa1 := fa.same s1 (gh_same s1)
      obtain ⟨fn, fs, fi⟩ := f
      have hcr : crashF cs (fn, fs, fi) = (fn, fs, if (match cutOf fn cs with | none => curZ (fn, fs, fi) | some x => leftZ (fn, fs, fi) x.1 x.2) = fs then [] else [match cutOf fn cs with | none => curZ (fn, fs, fi) | some x => leftZ (fn, fs, fi) x.1 x.2]) := rfl
      rw [hcr] at hs
      replace ov : OAt (gh H1 M') v (match cutOf fn cs with | none => curZ (fn, fs, fi) | some x => leftZ (fn, fs, fi) x.1 x.2) := ov
      generalize (match cutOf fn cs with | none => curZ (fn, fs, fi) | some x => leftZ (fn, fs, fi) x.1 x.2) = lf at *
      obtain ⟨v0, ms, ⟨ok1, dx1, e1⟩, es, o1, o2⟩ := fa1
      replace e1 : H1 (qs'.getD i dQ).1 = some (.ins (c.cls "File") dx1 (filF fn v0 (qs'.getD i dQ).2)) := e1
      replace ok1 : ClsOk K c "File" FIL := ok1
      replace o1 : OAt (gh H1 M') v0 fs := o1
      have fin : ∀ (s' : Addr) (xs : List V) (l : List St0), H1 s' = none → All2 (OAt (gh H1 M')) xs l → l = (if lf = fs then [] else [lf]) →
          ∃ (M2 : List Addr) (qs2 : List (Addr × Addr)) (w2 w3' w4 : Option V), [some (V.ref d), some (V.ref cu), some (V.ref (qs'.getD i dQ).1), w3, some v] = [some (.ref d), some (.ref cu), w2, w3', w4] ∧ MvR H M (upd (upd H1 s' (.lst xs)) (qs'.getD i dQ).1 (.ins (c.cls "File") dx1 (filF fn v0 s'))) M2 ∧ DiskIn K c (upd (upd H1 s' (.lst xs)) (qs'.getD i dQ).1 (.ins (c.cls "File") dx1 (filF fn v0 s'))) d M2 t qs2 (mapF (crashF cs) F (i + 1)) ∧ qs2.map (·.1) = qs'.map (·.1) := by
        intro s' xs l fs' ox hl2
        have nsp : s' ≠ (qs'.getD i dQ).1 := fun z => by rw [z, e1] at fs'; cases fs'
        have keep : ∀ a o, a ≠ (qs'.getD i dQ).1 → H1 a = some o → (upd (upd H1 s' (.lst xs)) (qs'.getD i dQ).1 (.ins (c.cls "File") dx1 (filF fn v0 s'))) a = some o := fun a o h e =>
          lk_ne h (lk_ne (fun z => by rw [z, fs'] at e; cases e) e)
        have es2 : (upd (upd H1 s' (.lst xs)) (qs'.getD i dQ).1 (.ins (c.cls "File") dx1 (filF fn v0 s'))) s' = some (.lst xs) := lk_ne nsp upd_same
        have ep2 : (upd (upd H1 s' (.lst xs)) (qs'.getD i dQ).1 (.ins (c.cls "File") dx1 (filF fn v0 s'))) (qs'.getD i dQ).1 = some (.ins (c.cls "File") dx1 (filF fn v0 s')) := upd_same
        generalize (upd (upd H1 s' (.lst xs)) (qs'.getD i dQ).1 (.ins (c.cls "File") dx1 (filF fn v0 s'))) = H2 at *
        have m2 : Same (gh H1 M') (gh H2 (s' :: M')) := gh_hid fun a o e => by
          have na : a ∉ M' := fun z => by rw [hid_in z] at e; cases e
          rw [hid_out na] at e
          refine hid_lk (fun z => ?_) (keep a o (fun z => na (z ▸ mem.1)) e)
          rcases List.mem_cons.mp z with rfl | z
          · rw [fs'] at e; cases e
          · exact na z
        obtain ⟨D2, mv2⟩ := D1.renew hi3 keep ok1 ep2 es2 fs' (o1.same m2) (All2.imp (fun _ _ h => h.same m2) ox)
        rw [← hl2] at hs
        rw [hs] at D2
        exact ⟨_, _, _, _, _, rfl, mv.trans ((MvR.of s1).trans mv2), D2, set_m1⟩
      walk_at "zz"
      refine z_eqO (ov.same gh_le) (o1.same gh_le) ?_
      walk_at "zz"
      by_cases c1 : lf = fs
      · rw [decide_eq_true c1]
        walk_at "zx"
        rename_i s' hs'
        try rw [show putF "since" (V.ref s') (filF fn v0 (qs'.getD i dQ).2) = filF fn v0 s' from rfl]
        exact fin s' [] [] hs' .nil (by rw [if_pos c1])
      · rw [decide_eq_false c1]
        walk_at "zx"
        rename_i s' hs'
        try rw [show putF "since" (V.ref s') (filF fn v0 (qs'.getD i dQ).2) = filF fn v0 s' from rfl]
        exact fin s' [v] [lf] hs' (.cons ov .nil) (by rw [if_neg c1])
    have fa0 := fa
    obtain ⟨v0, ms, ⟨ok1, dx1, e1⟩, es, o1, o2⟩ := fa
    replace e1 : H' (qs'.getD i dQ).1 = some (.ins (c.cls "File") dx1 (filF f.1 v0 (qs'.getD i dQ).2)) := e1
    replace ok1 : ClsOk K c "File" FIL := ok1
    unfold T_Disk_crash_b1
    walk_at "zz"
    refine ⟨cu, f.1, cs, rfl, dpS (Same.trans mv.gh gh_le) dcu, lcs, ?_⟩
    cases hc : cutOf f.1 cs with
    | none =>
      rw [hc] at rest
      simp only
      walk_at "zz"
      try rw [decide_eq_true (show V.non = .non from rfl)]
      walk_at "zx"
      refine ⟨_, _, _, rfl, e1, rfl, ?_⟩
      walk_at "zz"
      refine File_current_c fa0 fun v ov => ?_
      exact rest v H' _ (Same.refl _) ov
    | some x =>
      rw [hc] at rest
      simp only
      intro tt htt
      have st : Same H' (upd H' tt (.tup [.int x.1, .int x.2])) := Same.new htt (Same.refl _)
      have ett : upd H' tt (.tup [.int x.1, .int x.2]) tt = some (.tup [.int x.1, .int x.2]) := upd_same
      generalize upd H' tt (.tup [.int x.1, .int x.2]) = H1 at *
      have fa1 := fa0.same st (gh_same (M := M') st)
      walk_at "zz"
      try rw [decide_eq_false (show ¬ V.ref tt = .non from fun z => by cases z)]
      walk_at "zx"
      try refine z_ix (.inr (SqT.of ett)) (v := .int x.1) rfl ?_
      walk_at "zz"
      try refine z_ix (.inr (SqT.of ett)) (v := .int x.2) rfl ?_
      walk_at "zz"
      obtain ⟨y, hy, ey⟩ := cutOf_mem hc
      have py := pcs y hy
      rw [ey] at py
      refine left_of_c fa1 (D'.oc.occ.same st) py hb fun v H2 s2 ov => ?_
      exact rest v H2 _ (Same.trans st s2) ov
  · rintro σ H' ⟨M', qs', w2, w3, w4, rfl, mv, D', eq⟩
    rw [List.length_map, List.length_map, hl] at D'
    unfold mapF at D'
    rw [List.take_length, List.drop_length, List.append_nil] at D'
    exact q _ _ _ mv D'

inductive Rep | ref | done | nums (ys : List Int)
def ReplyAt (H0 H G : Hp) (t : Addr) : Rep → Prop
  | .ref => Same H0 H ∧ G t = some (.tup [.str "refused"])
  | .done => G t = some (.tup [.str "done"])
  | .nums ys => Same H0 H ∧ ∃ a, H0 a = none ∧ G t = some (.tup [.str "numbers", .ref a]) ∧ G a = some (.lst (ys.map V.int))
def askZ (F : List FS) (w n : Str) (xs : List Int) : List FS × Rep :=
  if decide (contZ F n = none) = decide (w = "make") then
    if w = "read" then (F, .nums ((contZ F n).getD []))
    else if w = "remove" then (writeZ F n none, .done)
    else if w = "make" then (writeZ F n (some xs), .done)
    else (writeZ F n (some ((contZ F n).getD [] ++ xs)), .done)
  else (F, .ref)
theorem at_one {a b : V} {r : List V} : atI (a :: b :: r) 1 = some b := by
  unfold atI; rw [ix_at (by omega) (by simp <;> omega)]; rfl
theorem at_zero {a : V} {r : List V} : atI (a :: r) 0 = some a := by
  unfold atI; rw [ix_at (by omega) (by simp <;> omega)]; rfl
/-- an operation on a file -/
def OpAt (K : PySem.W.Frag) (H : Hp) (op : Addr) (w n : Str) (xs : List Int) : Prop :=
  ((w = "read" ∨ w = "remove") ∧ ∃ rest, SqT K H op (.str w :: .str n :: rest)) ∨ ((w = "make" ∨ w = "append") ∧ ∃ a, SqT K H op [.str w, .str n, .ref a] ∧ H a = some (.lst (xs.map V.int)))
theorem OpAt.same {K : PySem.W.Frag} {H H' : Hp} {op : Addr} {w n : Str} {xs : List Int} (s : Same H H') (h : OpAt K H op w n xs) : OpAt K H' op w n xs := by
  rcases h with ⟨h, r, e⟩ | ⟨h, a, e, f⟩
  · exact .inl ⟨h, r, Same.sqT s e⟩
  · exact .inr ⟨h, a, Same.sqT s e, s _ _ f⟩
theorem OpAt.at1 {K : PySem.W.Frag} {H : Hp} {op : Addr} {w n : Str} {xs : List Int} (h : OpAt K H op w n xs) : ∃ rest, SqT K H op (.str w :: .str n :: rest) := by
  rcases h with ⟨h, r, e⟩ | ⟨h, a, e, f⟩
  · exact ⟨r, e⟩
  · exact ⟨_, e⟩
abbrev N_Disk_ask_file : List Str := ["self", "word", "operation", "name", "seen"]
-- Disk.ask_file(self, word, operation): slots 0:self 1:word 2:operation 3:name 4:seen
def T_Disk_ask_file (K : PySem.W.Frag) (c : CEnv) : TS :=
    (tSeq (tAsg (tOp (uIx K) (tVar 2) (tC (.int 1))) (gName 3))
    (tSeq (tAsg (tMt c "Disk" "contents" (sp_Disk_contents K c) (tVar 0) (tCons (tVar 3) tNil)) (gName 4))
    (tSeq (tIfS (tTest (tOp (uNe K) (tOp uIs (tVar 4) (tC .non)) (tOp (uEq K) (tVar 1) (tC (.str "make"))))) (tRet (tTup (tCons (tC (.str "refused")) tNil))) tNext)
    (tSeq (tIfS (tTest (tOp (uEq K) (tVar 1) (tC (.str "read")))) (tRet (tTup (tCons (tC (.str "numbers")) (tCons (tCB (uList K) (tCons (tVar 4) tNil)) tNil)))) tNext)
    (tCut (tIfS (tTest (tOp (uEq K) (tVar 1) (tC (.str "remove")))) (tDrop (tMt c "Disk" "write" (sp_Disk_write K c) (tVar 0) (tCons (tVar 3) (tCons (tC .non) tNil)))) (tIfS (tTest (tOp (uEq K) (tVar 1) (tC (.str "make")))) (tDrop (tMt c "Disk" "write" (sp_Disk_write K c) (tVar 0) (tCons (tVar 3) (tCons (tCB (uList K) (tCons (tOp (uIx K) (tVar 2) (tC (.int 2))) tNil)) tNil)))) (tDrop (tMt c "Disk" "write" (sp_Disk_write K c) (tVar 0) (tCons (tVar 3) (tCons (tOp (uAdd K) (tVar 4) (tCB (uList K) (tCons (tOp (uIx K) (tVar 2) (tC (.int 2))) tNil))) tNil))))))
    (tRet (tTup (tCons (tC (.str "done")) tNil))))))))

def sp_Disk_ask_file (K : PySem.W.Frag) (c : CEnv) : Sp := fun vs H Q _ => ∃ (d t op : Addr) (w n : Str) (xs : List Int) (M : List Addr) (qs : List (Addr × Addr)) (F : List FS), vs = [.ref d, .str w, .ref op] ∧ OpAt K H op w n xs ∧ DiskIn K c H d M t qs F ∧ BdF F ∧ xs.length + ((contZ F n).getD []).length ≤ 100000 ∧
  ∀ r H' M' qs', MvR H M H' M' → DiskIn K c H' d M' t qs' (askZ F w n xs).1 → ReplyAt H H' (hid H' M') r (askZ F w n xs).2 → H r = none → Q (.ref r) H'
theorem w_Disk_ask_file {K : PySem.W.Frag} {c : CEnv} : Wd (T_Disk_ask_file K c) N_Disk_ask_file 3 (sp_Disk_ask_file K c) := fun vs H Q E h => by
  obtain ⟨d, t, op, w, n, xs, M, qs, F, rfl, hop, D, bd, lx, q⟩ := h
  obtain ⟨rest, e1⟩ := hop.at1
  refine ⟨rfl, ?_⟩
  show T_Disk_ask_file K c _ [some (.ref d), some (.str w), some (.ref op), none, none] H
  unfold T_Disk_ask_file
  obtain ⟨okd, dx, ed⟩ := D.ins
  walk_at "zz"
  try refine z_ix (.inr e1) at_one ?_
  walk_at "zz"
  refine ⟨_, _, _, rfl, ed, rfl, ?_⟩
  walk_at "zz"
  refine ⟨d, t, n, M, qs, F, rfl, D, fun v ov => ?_⟩
  walk_at "zz"
  rw [ov.non]
  have ov0 := ov.same gh_le
  unfold askZ at q
  have dn : ∀ (r : Addr) (H1 : Hp) (M1 : List Addr) (qs1 : List (Addr × Addr)) (F1 : List FS), MvR H M H1 M1 → DiskIn K c H1 d M1 t qs1 F1 → H1 r = none → (∀ r H' M' qs', MvR H M H' M' → DiskIn K c H' d M' t qs' F1 → ReplyAt H H' (hid H' M') r .done → H r = none → Q (.ref r) H') → Q (.ref r) (upd H1 r (.tup [.str "done"])) := fun r H1 M1 qs1 F1 mv D1 hr k => by
    refine k r _ M1 qs1 (mv.trans (MvR.of (Same.new hr (Same.refl _)))) (D1.same (Same.new hr (Same.refl _))) (hid_lk (D1.oc.occ.no hr) upd_same) ?_
    cases e : H r with
    | none => rfl
    | some o =>
      by_cases z : r ∈ M
      · obtain ⟨o2, _, e2⟩ := D1.oc r (mv.sub r z); rw [hr] at e2; cases e2
      · have := hid_le _ _ (mv.same _ _ (hid_lk z e)); rw [hr] at this; cases this
  by_cases c1 : decide (contZ F n = none) = decide (w = "make")
  · rw [if_pos c1] at q
    rw [c1]
    try rw [decide_eq_true (show decide (w = "make") = decide (w = "make") from rfl)]
    walk_at "zx"
    by_cases w1 : w = "read"
    · subst w1
      rw [if_pos rfl] at q
      have c2 : ¬ contZ F n = none := fun z => by rw [decide_eq_true z] at c1; exact absurd c1 (by decide)
      obtain ⟨sn, hsn⟩ := Option.ne_none_iff_exists'.mp c2
      rw [hsn] at ov0 q
      obtain ⟨a, rfl, ea⟩ := ov0
      walk_at "zx"
      rename_i l hl r hr
      refine q r _ M qs (MvR.of (Same.new hr (Same.new hl (Same.refl _)))) (D.same (Same.new hr (Same.new hl (Same.refl _)))) ⟨Same.new hr (Same.new hl (Same.refl _)), l, hl, hid_lk ((D.oc.occ.same (Same.new hl (Same.refl _))).no hr) upd_same, hid_lk (D.oc.occ.no hl) (lk_new hr upd_same)⟩ ?_
      exact fresh_back (Same.new hl (Same.refl _)) hr
    rw [if_neg w1] at q
    have w1' : decide (w = "read") = false := decide_eq_false w1
    rw [w1']
    walk_at "zx"
    refine z_cut (fun σ' H' => σ' = [some (.ref d), some (.str w), some (.ref op), some (.str n), some v] ∧ ∃ (M' : List Addr) (qs' : List (Addr × Addr)), MvR H M H' M' ∧ DiskIn K c H' d M' t qs' (if w = "remove" then (writeZ F n none, Rep.done) else if w = "make" then (writeZ F n (some xs), Rep.done) else (writeZ F n (some ((contZ F n).getD [] ++ xs)), Rep.done)).1) ?_ ?_
    · walk_at "zz"
      by_cases w2 : w = "remove"
      · subst w2
        walk_at "zx"
        refine ⟨_, _, _, rfl, ed, rfl, ?_⟩
        walk_at "zz"
        refine Disk_write_c (st := none) D rfl bd fun H' M' qs' mv D' => ?_
        exact ⟨rfl, M', qs', mv, D'⟩
      rw [decide_eq_false w2, if_neg w2]
      walk_at "zx"
      rcases hop with ⟨h, _⟩ | ⟨h, a, ea, fa⟩
      · exact absurd h (by rintro (h | h); exact w1 h; exact w2 h)
      by_cases w3 : w = "make"
      · subst w3
        walk_at "zx"
        refine ⟨_, _, _, rfl, ed, rfl, ?_⟩
        walk_at "zz"
        try refine z_ix (.inr ea) (v := .ref a) rfl ?_
        walk_at "zz"
        rename_i l hl
        have sn : Same H (upd H l (.lst (xs.map V.int))) := Same.new hl (Same.refl _)
        refine Disk_write_c (st := some xs) (D.same sn) ⟨l, rfl, gh_lk (D.oc.occ.no hl) upd_same NotSt.ints⟩ bd fun H' M' qs' mv D' => ?_
        exact ⟨rfl, M', qs', (MvR.of sn).trans mv, D'⟩
      · rw [decide_eq_false w3, if_neg w3]
        have c2 : ¬ contZ F n = none := fun z => by rw [decide_eq_true z, decide_eq_false w3] at c1; cases c1
        obtain ⟨sn, hsn⟩ := Option.ne_none_iff_exists'.mp c2
        rw [hsn] at ov0 lx ⊢
        obtain ⟨b, rfl, eb⟩ := ov0
        have lx : xs.length + sn.length ≤ 100000 := lx
        walk_at "zx"
        refine ⟨_, _, _, rfl, ed, rfl, ?_⟩
        walk_at "zz"
        try refine z_ix (.inr ea) (v := .ref a) rfl ?_
        walk_at "zz"
        rename_i l hl
        have s1 : Same H (upd H l (.lst (xs.map V.int))) := Same.new hl (Same.refl _)
        have e2 : upd H l (.lst (xs.map V.int)) l = some (.lst (xs.map V.int)) := upd_same
        have eb1 := s1 _ _ eb
        generalize upd H l (.lst (xs.map V.int)) = H1 at *
        refine z_addL eb1 e2 (by rw [List.length_map, List.length_map]; omega) fun l2 hl2 => ?_
        walk_at "zz"
        have s2 : Same H1 (upd H1 l2 (.lst (sn.map V.int ++ xs.map V.int))) := Same.new hl2 (Same.refl _)
        have D2 := (D.same s1).same s2
        refine Disk_write_c (st := some (sn ++ xs)) D2 ⟨l2, rfl, gh_lk ((D.oc.occ.same s1).no hl2) (by rw [upd_same, List.map_append]) NotSt.ints⟩ bd fun H' M' qs' mv D' => ?_
        exact ⟨rfl, M', qs', ((MvR.of s1).trans (MvR.of s2)).trans mv, D'⟩
    · rintro σ' H' ⟨rfl, M', qs', mv, D'⟩
      have sn2 : (if w = "remove" then (writeZ F n none, Rep.done) else if w = "make" then (writeZ F n (some xs), Rep.done) else (writeZ F n (some ((contZ F n).getD [] ++ xs)), Rep.done)).2 = Rep.done := by split <;> (try split) <;> rfl
      rw [sn2] at q
      walk_at "zz"
      rename_i r hr
      exact dn r H' M' qs' _ mv D' hr q
  · rw [if_neg c1] at q
    have c1' : decide (decide (contZ F n = none) = decide (w = "make")) = false := decide_eq_false c1
    try rw [c1']
    walk_at "zx"
    rename_i r hr
    exact q r _ M qs (MvR.of (Same.new hr (Same.refl _))) (D.same (Same.new hr (Same.refl _))) ⟨Same.new hr (Same.refl _), hid_lk (D.oc.occ.no hr) upd_same⟩ hr

theorem z_eqO' {K : PySem.W.Frag} {H : Hp} {u v : V} {a b : St0} {Q : VK} (h1 : Dp K H u (oD a)) (h2 : Dp K H v (oD b)) (k : Q (.bl (decide (a = b))) H) : uEq K u v H Q := by
  have s1 : SeqAt.shaped (oD a) = true := oD_lay.sh (by decide)
  have s2 : SeqAt.shaped (oD b) = true := oD_lay.sh (by decide)
  have q : rEqD K u v H Q := ⟨oD a, oD b, h1, h2, s1, s2, by rw [oD_eqv]; exact k⟩
  cases a with
  | none =>
    obtain rfl := dpN h1
    cases b with
    | none => obtain rfl := dpN h2; exact z_eqN k
    | some y => obtain ⟨_, _, rfl, _, _⟩ := dpL h2; exact .inr q
  | some x =>
    obtain ⟨_, _, rfl, _, _⟩ := dpL h1
    cases b with
    | none => obtain rfl := dpN h2; exact .inr q
    | some y => obtain ⟨_, _, rfl, _, _⟩ := dpL h2; exact .inl q
theorem z_neO' {K : PySem.W.Frag} {H : Hp} {u v : V} {a b : St0} {Q : VK} (h1 : Dp K H u (oD a)) (h2 : Dp K H v (oD b)) (k : Q (.bl (!decide (a = b))) H) : uNe K u v H Q := by
  have s1 : SeqAt.shaped (oD a) = true := oD_lay.sh (by decide)
  have s2 : SeqAt.shaped (oD b) = true := oD_lay.sh (by decide)
  have q : rNeD K u v H Q := ⟨oD a, oD b, h1, h2, s1, s2, by rw [oD_eqv]; exact k⟩
  cases a with
  | none =>
    obtain rfl := dpN h1
    cases b with
    | none => obtain rfl := dpN h2; exact z_neN k
    | some y => obtain ⟨_, _, rfl, _, _⟩ := dpL h2; exact .inr q
  | some x =>
    obtain ⟨_, _, rfl, _, _⟩ := dpL h1
    cases b with
    | none => obtain rfl := dpN h2; exact .inr q
    | some y => obtain ⟨_, _, rfl, _, _⟩ := dpL h2; exact .inl q
abbrev N_Disk_files : List Str := ["self", "found", "file", "seen", "sure"]
-- Disk.files(self): slots 0:self 1:found 2:file 3:seen 4:sure
def T_Disk_files_b1 (K : PySem.W.Frag) (c : CEnv) : TS :=
    (tSeq (tAsg (tMt c "File" "current" (sp_File_current K c) (tVar 2) tNil) (gName 3))
    (tIfS (tOr (tTest (tOp uIsNot (tVar 3) (tC .non))) (tTest (tOp uIsNot (tFld K (tVar 2) "sure") (tC .non)))) (tSeq (tAsg (tIf (tTest (tOp uIs (tFld K (tVar 2) "sure") (tC .non))) (tC .non) (tCB (uList K) (tCons (tFld K (tVar 2) "sure") tNil))) (gName 4))
    (tDrop (tBM K "list" rAppend (tVar 1) (tCons (tTup (tCons (tFld K (tVar 2) "name") (tCons (tVar 4) (tCons (tIf (tTest (tOp uIs (tVar 3) (tC .non))) (tC .non) (tCB (uList K) (tCons (tVar 3) tNil))) tNil)))) tNil)))) tNext))
def T_Disk_files (K : PySem.W.Frag) (c : CEnv) : TS :=
    (tSeq (tAsg (tLst tNil) (gName 1))
    (tSeq (tFor (iSq K (tFld K (tVar 0) "table")) (gName 2) (T_Disk_files_b1 K c))
    (tRet (tVar 1))))

def sp_Disk_files (K : PySem.W.Frag) (c : CEnv) : Sp := fun vs H Q _ => ∃ (d t : Addr) (M : List Addr) (qs : List (Addr × Addr)) (F : List FS), vs = [.ref d] ∧ DiskIn K c H d M t qs F ∧ BdF F ∧ ∀ r H', H r = none → Same H H' → Dp K (gh H' M) (.ref r) (.list ((filesZ F).map flD)) → Q (.ref r) H'
theorem w_Disk_files {K : PySem.W.Frag} {c : CEnv} : Wd (T_Disk_files K c) N_Disk_files 1 (sp_Disk_files K c) := fun vs H Q E h => by
  obtain ⟨d, t, M, qs, F, rfl, D, bd, q⟩ := h
  have hl := D.len
  obtain ⟨okd, dxd, ed⟩ := D.ins
  replace okd : ClsOk K c "Disk" ["table"] := okd
  refine ⟨rfl, ?_⟩
  show T_Disk_files K c _ [some (.ref d), none, none, none, none] H
  unfold T_Disk_files
  walk_at "zz"
  clear okd
  rename_i r hr
  have nr : r ∉ M := D.oc.occ.no hr
  have refs : ∀ {ms : List V} {l : List FS} {G : Hp}, DpAll K G ms (l.map flD) → NotSt (.lst ms) := fun {ms l G} h => by
    obtain ⟨ps, rfl⟩ := dpsRef (f := fun f : FS => [.str f.1, oD f.2.1, oD (curZ f)]) h
    exact NotSt.refs
  refine z_forL (SqL.of (lk_new hr D.tb)) (fun i σ H' => Same H H' ∧ (∃ w2 w3 w4 : Option V, σ = [some (.ref d), some (.ref r), w2, w3, w4]) ∧ ∃ ms : List V, H' r = some (.lst ms) ∧ DpAll K (gh H' (r :: M)) ms ((filesZ (F.take i)).map flD)) ⟨Same.new hr (Same.refl _), ⟨_, _, _, rfl⟩, [], upd_same, .nil⟩ (fun i σ' H' _ z => SqL.of (z.1 _ _ D.tb)) ?_ ?_
  · rintro i x σ H' hx ⟨s1, ⟨w2, w3, w4, rfl⟩, ms, er, rm⟩
    obtain ⟨hi, rfl⟩ := map_ref hx
    rw [List.length_map] at hi
    have hi2 : i < F.length := by omega
    have fa := (D.at hi2).same s1 (gh_of (M := M) hr s1)
    rw [mapD1]
    have ft := filesZ_take hi2
    rw [ft, List.map_append]
    generalize F.getD i dFS = f at *
    have lm := dpsLen rm
    have lf : (filesZ (F.take i)).length ≤ 1000 := by
      unfold filesZ
      refine Nat.le_trans (List.length_filter_le _ _) ?_
      rw [List.length_take]; have := bd.1; omega
    rw [List.length_map] at lm
    have fa0 := fa
    obtain ⟨v0, ms0, ⟨ok1, dx1, e1⟩, es, o1, o2⟩ := fa
    replace e1 : H' (qs.getD i dQ).1 = some (.ins (c.cls "File") dx1 (filF f.1 v0 (qs.getD i dQ).2)) := e1
    replace ok1 : ClsOk K c "File" FIL := ok1
    have oc : Occ H' (r :: M) := Occ.cons er (D.oc.occ.same s1)
    unfold T_Disk_files_b1
    walk_at "zz"
    refine ⟨_, _, _, rfl, e1, rfl, ?_⟩
    walk_at "zz"
    refine File_current_c fa0 fun v ov => ?_
    walk_at "zz"
    rw [ov.non]
    have app : ∀ (y : V) (H2 : Hp), Same H' H2 → Dp K (gh H2 (r :: M)) y (flD f) → ∀ Q : VK, (Q .non (upd H2 r (.lst (ms ++ [y])))) → rAppend (.ref r) [y] H2 Q := fun y H2 s2 dy Q k => z_app (s2 _ _ er) (by omega) k
    have post : ∀ (y : V) (H2 : Hp), Same H' H2 → Dp K (gh H2 (r :: M)) y (flD f) → Same H (upd H2 r (.lst (ms ++ [y]))) ∧ DpAll K (gh (upd H2 r (.lst (ms ++ [y]))) (r :: M)) (ms ++ [y]) ((filesZ (F.take i)).map flD ++ [flD f]) := fun y H2 s2 dy =>
      ⟨Same.put hr (Same.trans s1 s2), by rw [gh_put (by simp)]; exact dpsApp (dpsS (gh_same s2) rm) dy⟩
    have newT : ∀ {H2 : Hp} {tt : Addr} {xs : List V} {ds : List PyData}, H2 tt = none → Occ H2 (r :: M) → DpAll K (gh H2 (r :: M)) xs ds → Dp K (gh (upd H2 tt (.tup xs)) (r :: M)) (.ref tt) (.tuple ds) := fun {H2 tt xs ds} htt oc h =>
      .tup (SqT.of (gh_lk (oc.no htt) upd_same NotSt.tup)) (dpsS (gh_same (Same.new htt (Same.refl _))) h)
    have newL : ∀ {H2 : Hp} {l : Addr} {xs : List Int}, H2 l = none → Occ H2 (r :: M) → Dp K (gh (upd H2 l (.lst (xs.map V.int))) (r :: M)) (.ref l) (.list (diI xs)) := fun {H2 l xs} hl oc =>
      dpLI (SqL.of (gh_lk (oc.no hl) upd_same NotSt.ints))
    obtain ⟨fn, fs, fi⟩ := f
    replace o1 : OAt (gh H' (r :: M)) v0 fs := o1
    have flt_if : ∀ b : Bool, (List.map flD (if b = true then [((fn, fs, fi) : FS)] else [])) = if b = true then [flD (fn, fs, fi)] else [] := fun b => by cases b <;> rfl
    rw [flt_if]
    have fin : ∀ (y : V) (H2 : Hp) (w2 w3 w4 : Option V) (b : Bool), Same H' H2 → Dp K (gh H2 (r :: M)) y (flD (fn, fs, fi)) → b = true → rAppend (.ref r) [y] H2 fun x H1 => Same H H1 ∧ (∃ w2' w3' w4' : Option V, [some (V.ref d), some (V.ref r), w2, w3, w4] = [some (.ref d), some (.ref r), w2', w3', w4']) ∧ ∃ ms : List V, H1 r = some (.lst ms) ∧ DpAll K (gh H1 (r :: M)) ms ((filesZ (F.take i)).map flD ++ (if b = true then [flD (fn, fs, fi)] else [])) := fun y H2 w2 w3 w4 b s2 dy hb => by
      refine app y H2 s2 dy _ ?_
      obtain ⟨p1, p2⟩ := post y H2 s2 dy
      exact ⟨p1, ⟨_, _, _, rfl⟩, ms ++ [y], upd_same, by rw [if_pos hb]; exact p2⟩
    have flD_e : flD (fn, fs, fi) = .tuple [.str fn, oD fs, oD (curZ (fn, fs, fi))] := rfl
    cases hc : curZ (fn, fs, fi) with
    | none =>
      rw [hc] at ov
      have flD_2 : flD (fn, fs, fi) = .tuple [.str fn, oD fs, oD none] := by rw [flD_e, hc]
      rw [flD_2] at fin ⊢
      obtain rfl : v = .non := ov
      rw [decide_eq_true (show (none : St0) = none from rfl)]
      walk_at "zx"
      cases fs with
      | none =>
        obtain rfl : v0 = .non := o1
        try rw [decide_eq_true (show V.non = .non from rfl)]
        walk_at "zx"
        exact ⟨s1, ⟨_, _, _, rfl⟩, ms, er, by simpa using rm⟩
      | some ys =>
        obtain ⟨b, rfl, eb⟩ := o1
        replace eb := gh_le _ _ eb
        try rw [decide_eq_false (show ¬ V.ref b = .non from fun z => by cases z)]
        walk_at "zx"
        try rw [decide_eq_false (show ¬ V.ref b = .non from fun z => by cases z)]
        walk_at "zx"
        try rw [decide_eq_true (show V.non = .non from rfl)]
        walk_at "zx"
        rename_i l hl2 tt htt
        have sl : Same H' (upd H' l (.lst (ys.map V.int))) := Same.new hl2 (Same.refl _)
        have dl := newL (xs := ys) hl2 oc
        exact fin _ _ _ _ _ _ (Same.new htt sl) (newT htt (oc.same sl) (.cons (.str fn) (.cons dl (.cons .non .nil)))) (by rfl)
    | some xs =>
      rw [hc] at ov
      have flD_2 : flD (fn, fs, fi) = .tuple [.str fn, oD fs, oD (some xs)] := by rw [flD_e, hc]
      rw [flD_2] at fin ⊢
      obtain ⟨a, rfl, ea⟩ := ov
      replace ea := gh_le _ _ ea
      rw [decide_eq_false (show ¬ (some xs : St0) = none from fun z => by cases z)]
      walk_at "zx"
      cases fs with
      | none =>
        obtain rfl : v0 = .non := o1
        try rw [decide_eq_true (show V.non = .non from rfl)]
        walk_at "zx"
        try rw [decide_eq_false (show ¬ V.ref a = .non from fun z => by cases z)]
        walk_at "zx"
        rename_i l hl2 tt htt
        have sl : Same H' (upd H' l (.lst (xs.map V.int))) := Same.new hl2 (Same.refl _)
        have dl := newL (xs := xs) hl2 oc
        exact fin _ _ _ _ _ _ (Same.new htt sl) (newT htt (oc.same sl) (.cons (.str fn) (.cons .non (.cons dl .nil)))) (by rfl)
      | some ys =>
        obtain ⟨b, rfl, eb⟩ := o1
        replace eb := gh_le _ _ eb
        try rw [decide_eq_false (show ¬ V.ref b = .non from fun z => by cases z)]
        walk_at "zx"
        try rw [decide_eq_false (show ¬ V.ref a = .non from fun z => by cases z)]
        walk_at "zx"
        rename_i l hl2 l2 hl3 tt htt
        have sl : Same H' (upd H' l (.lst (ys.map V.int))) := Same.new hl2 (Same.refl _)
        have dl := newL (xs := ys) hl2 oc
        generalize upd H' l (.lst (ys.map V.int)) = Ha at *
        have sl2 : Same Ha (upd Ha l2 (.lst (xs.map V.int))) := Same.new hl3 (Same.refl _)
        have dl2 := newL (xs := xs) hl3 (oc.same sl)
        exact fin _ _ _ _ _ _ (Same.new htt (Same.trans sl sl2)) (newT htt ((oc.same sl).same sl2) (.cons (.str fn) (.cons (dpS (gh_same sl2) dl) (.cons dl2 .nil)))) (by rfl)
  · rintro σ H' ⟨s1, ⟨w2, w3, w4, rfl⟩, ms, er, rm⟩
    rw [List.length_map, List.length_map, hl, List.take_length] at rm
    walk_at "zz"
    exact q r H' hr s1 (.lst (SqL.of (gh_lk nr er (refs rm))) (dpsS (gh_hid (hid_sub fun a h => List.mem_cons_of_mem _ h)) rm))
abbrev N_Disk_ask : List Str := ["self", "operation", "word", "file"]
-- Disk.ask(self, operation): slots 0:self 1:operation 2:word 3:file
def T_Disk_ask (K : PySem.W.Frag) (c : CEnv) (W : WX) : TS :=
    (tSeq (tAsg (tOp (uIx K) (tVar 1) (tC (.int 0))) (gName 2))
    (tSeq (tIfS (tTest (tOp (uNotIn K) (tVar 2) (tCstT K [.str "append", .str "make", .str "remove", .str "sync", .str "read", .str "names"]))) (sRaiseA c "InvalidOperation" (tVar 2) W) tNext)
    (tSeq (tIfS (tTest (tOp (uEq K) (tVar 2) (tC (.str "names")))) (tRet (tTup (tCons (tC (.str "names")) (tCons (tLc (iSq K (tFld K (tVar 0) "table")) (gName 3) (tTest (tOp uIsNot (tMt c "File" "current" (sp_File_current K c) (tVar 3) tNil) (tC .non))) (tFld K (tVar 3) "name") [3]) tNil)))) tNext)
    (tSeq (tIfS (tTest (tOp (uEq K) (tVar 2) (tC (.str "sync")))) (tSeq (tDrop (tMt c "Disk" "sync" (sp_Disk_sync K c) (tVar 0) tNil))
    (tRet (tTup (tCons (tC (.str "done")) tNil)))) tNext)
    (tRet (tMt c "Disk" "ask_file" (sp_Disk_ask_file K c) (tVar 0) (tCons (tVar 2) (tCons (tVar 1) tNil))))))))

def WRDK : List Str := ["append", "make", "remove", "sync", "read", "names"]
def namesZ (F : List FS) : List Str := (F.filter fun f => !decide (curZ f = none)).map (·.1)
theorem namesZ_take {F : List FS} {i : Nat} (h : i < F.length) : namesZ (F.take (i + 1)) = namesZ (F.take i) ++ (if (!decide (curZ (F.getD i dFS) = none)) = true then [(F.getD i dFS).1] else []) := by
  unfold namesZ; rw [take_dS dFS h, List.filter_append, List.filter_cons, List.filter_nil, List.map_append]
  split <;> rfl
def sp_Disk_ask (K : PySem.W.Frag) (c : CEnv) : Sp := fun vs H Q E => ∃ (d t op : Addr) (w n : Str) (rest : List V) (xs : List Int) (M : List Addr) (qs : List (Addr × Addr)) (F : List FS), vs = [.ref d, .ref op] ∧ SqT K H op (.str w :: rest) ∧ DiskIn K c H d M t qs F ∧ BdF F ∧ xs.length + ((contZ F n).getD []).length ≤ 100000 ∧
  (w ∉ WRDK → E (.ref (c.cls "InvalidOperation")) none H) ∧
  (w = "names" → ∀ r a H', H a = none → Same H H' → H' r = some (.tup [.str "names", .ref a]) → H' a = some (.lst ((namesZ F).map V.str)) → H r = none → Q (.ref r) H') ∧
  (w = "sync" → ∀ r H' M' qs', MvR H M H' M' → DiskIn K c H' d M' t qs' (F.map syncF) → hid H' M' r = some (.tup [.str "done"]) → H r = none → Q (.ref r) H') ∧
  (w ∈ WRDK → w ≠ "names" → w ≠ "sync" → OpAt K H op w n xs ∧ ∀ r H' M' qs', MvR H M H' M' → DiskIn K c H' d M' t qs' (askZ F w n xs).1 → ReplyAt H H' (hid H' M') r (askZ F w n xs).2 → H r = none → Q (.ref r) H')
theorem w_Disk_ask {K : PySem.W.Frag} {c : CEnv} : WdX (T_Disk_ask K c) N_Disk_ask 2 (sp_Disk_ask K c) := fun vs H Q E h => by
  obtain ⟨d, t, op, w, n, rest, xs, M, qs, F, rfl, eop, D, bd, lx, bad, qn, qy, qf⟩ := h
  have hl := D.len
  refine ⟨rfl, ?_⟩
  show T_Disk_ask K c _ _ [some (.ref d), some (.ref op), none, none] H
  unfold T_Disk_ask
  obtain ⟨okd, dx, ed⟩ := D.ins
  replace okd : ClsOk K c "Disk" ["table"] := okd
  walk_at "zz"
  try refine z_ix (.inr eop) at_zero ?_
  walk_at "zz"
  rename_i T hT
  refine z_notIn (.inr (hT _)) rfl rfl ?_
  walk_at "zz"
  rw [show ([V.str "append", V.str "make", V.str "remove", V.str "sync", V.str "read", V.str "names"] : List V) = WRDK.map V.str from rfl, inV_str]
  by_cases c0 : w ∈ WRDK
  · rw [decide_eq_true c0]
    walk_at "zx"
    by_cases w1 : w = "names"
    · rw [decide_eq_true w1]
      walk_at "zx"
      clear okd
      refine z_lcl (SqL.of D.tb) (fun C i H' => Same H H' ∧ H' C = some (.lst ((namesZ (F.take i)).map V.str))) (fun C hC => ⟨Same.new hC (Same.refl _), upd_same⟩) (fun C i H' _ _ z => SqL.of (z.1 _ _ D.tb)) ?_ ?_
      · rintro C i x H' hC hx ⟨s1, eC⟩
        obtain ⟨hi, rfl⟩ := map_ref hx
        rw [List.length_map] at hi
        have hi2 : i < F.length := by omega
        have fa := (D.at hi2).same s1 (gh_same (M := M) s1)
        rw [mapD1]
        have ft := namesZ_take hi2
        have ln : (namesZ (F.take i)).length ≤ 1000 := by
          unfold namesZ
          rw [List.length_map]
          refine Nat.le_trans (List.length_filter_le _ _) ?_
          rw [List.length_take]; have := bd.1; omega
        generalize F.getD i dFS = f at *
        have fa0 := fa
        obtain ⟨v0, ms0, ⟨ok1, dx1, e1⟩, es, o1, o2⟩ := fa
        replace e1 : H' (qs.getD i dQ).1 = some (.ins (c.cls "File") dx1 (filF f.1 v0 (qs.getD i dQ).2)) := e1
        replace ok1 : ClsOk K c "File" FIL := ok1
        refine z_gName ⟨rfl, ?_⟩
        walk_at "zz"
        refine ⟨_, _, _, rfl, e1, rfl, ?_⟩
        walk_at "zz"
        refine File_current_c fa0 fun v ov => ?_
        walk_at "zz"
        rw [ov.non]
        by_cases c1 : curZ f = none
        · rw [decide_eq_true c1] at ft ⊢
          walk_at "zx"
          refine ⟨s1, ?_⟩
          rw [ft]; simpa using eC
        · rw [decide_eq_false c1] at ft ⊢
          walk_at "zx"
          refine z_accum eC (by rw [List.length_map]; omega) ⟨Same.put hC s1, ?_⟩
          rw [upd_same, ft, List.map_append]; rfl
      · rintro C H' hC ⟨s1, eC⟩
        rw [List.length_map, List.length_map, hl, List.take_length] at eC
        walk_at "zz"
        rename_i r hr
        exact qn w1 r C _ hC (Same.new hr s1) upd_same (lk_new hr eC) (fresh_back s1 hr)
    rw [decide_eq_false w1]
    walk_at "zx"
    by_cases w2 : w = "sync"
    · rw [decide_eq_true w2]
      walk_at "zx"
      refine ⟨_, _, _, rfl, ed, rfl, ?_⟩
      walk_at "zz"
      refine ⟨d, t, M, qs, F, rfl, D, fun H' M' qs' mv D' => ?_⟩
      walk_at "zz"
      rename_i r hr
      have hr0 : H r = none := by
        cases e : H r with
        | none => rfl
        | some o =>
          by_cases z : r ∈ M
          · obtain ⟨o2, _, e2⟩ := D'.oc r (mv.sub r z); rw [hr] at e2; cases e2
          · have := hid_le _ _ (mv.same _ _ (hid_lk z e)); rw [hr] at this; cases this
      exact qy w2 r _ M' qs' (mv.trans (MvR.of (Same.new hr (Same.refl _)))) (D'.same (Same.new hr (Same.refl _))) (hid_lk (D'.oc.occ.no hr) upd_same) hr0
    rw [decide_eq_false w2]
    walk_at "zx"
    obtain ⟨hop, qf⟩ := qf c0 w1 w2
    refine ⟨_, _, _, rfl, ed, rfl, ?_⟩
    walk_at "zz"
    exact ⟨d, t, op, w, n, xs, M, qs, F, rfl, hop, D, bd, lx, qf⟩
  · rw [decide_eq_false c0]
    walk_at "zx"
    exact bad c0

/-! ### the law's own table of states -/
abbrev TR : Type := Str × List St0
abbrev dTR : TR := ("", [])
def RowT (G : Hp) (a : Addr) (r : TR) : Prop := ∃ s ms, G a = some (.tup [.str r.1, .ref s]) ∧ G s = some (.lst ms) ∧ All2 (OAt G) ms r.2
def TbAt (G : Hp) (p : Addr) (T : List TR) : Prop := ∃ ps : List Addr, G p = some (.lst (ps.map V.ref)) ∧ All2 (RowT G) ps T
theorem RowT.same {G G' : Hp} {a : Addr} {r : TR} (s : Same G G') (h : RowT G a r) : RowT G' a r := by
  obtain ⟨t, ms, e, f, o⟩ := h
  exact ⟨t, ms, s _ _ e, s _ _ f, All2.imp (fun _ _ h => h.same s) o⟩
theorem TbAt.same {G G' : Hp} {p : Addr} {T : List TR} (s : Same G G') (h : TbAt G p T) : TbAt G' p T := by
  obtain ⟨ps, e, r⟩ := h
  exact ⟨ps, s _ _ e, All2.imp (fun _ _ h => h.same s) r⟩
def lastZ (l : List St0) : St0 := l.getLast?.getD none
def tiZ (T : List TR) (n : Str) : Nat := T.findIdx fun r => decide (r.1 = n)
theorem ti_eq {T : List TR} {n : Str} {i : Nat} (hi : i < T.length) (no : ∀ j, j < i → (T.getD j dTR).1 ≠ n) (e : (T.getD i dTR).1 = n) : tiZ T n = i := by
  unfold tiZ
  rw [List.findIdx_eq hi]
  refine ⟨?_, fun j hj => ?_⟩
  · rw [List.getD_eq_getElem?_getD, List.getElem?_eq_getElem hi] at e; exact decide_eq_true e
  · have := no j hj
    rw [List.getD_eq_getElem?_getD, List.getElem?_eq_getElem (by omega)] at this
    exact decide_eq_false this
theorem ti_no {T : List TR} {n : Str} (no : ∀ j, j < T.length → (T.getD j dTR).1 ≠ n) : tiZ T n = T.length := by
  unfold tiZ
  rw [List.findIdx_eq_length]
  intro f hf
  obtain ⟨j, hj, rfl⟩ := List.getElem_of_mem hf
  have := no j hj
  rw [List.getD_eq_getElem?_getD, List.getElem?_eq_getElem hj] at this
  exact decide_eq_false this
def tcontZ (T : List TR) (n : Str) : St0 := if tiZ T n < T.length then lastZ (T.getD (tiZ T n) dTR).2 else none
def addZ (T : List TR) (n : Str) (st : St0) : List TR := if n ∈ T.map (·.1) then T.map (fun r => (r.1, r.2 ++ if r.1 = n then [st] else [])) else T ++ [(n, [none, st])]
def leastS (l : List St0) (k : Nat) : Nat := match l.getD k none with | some s => leastZ (l.getD (k - 1) none) s | none => 0
/-- what may be left -/
def pst (b s w : St0) : Bool := match s, w with
  | none, none => true
  | some s, some x => decide (leastZ b s ≤ x.length) && decide (x = s.take x.length)
  | _, _ => false
def anyP (l : List St0) (w : St0) (n : Nat) : Bool := (List.range n).any fun j => pst (l.getD j none) (l.getD (j + 1) none) w
def possB (l : List St0) (w : St0) : Bool := decide (w = l.getD 0 none) || anyP l w (l.length - 1)
theorem anyP_s {l : List St0} {w : St0} {i : Nat} : anyP l w (i + 1) = (anyP l w i || pst (l.getD i none) (l.getD (i + 1) none) w) := by
  unfold anyP; rw [List.range_succ, List.any_append, List.any_cons, List.any_nil, Bool.or_false]
theorem anyP_up {l : List St0} {w : St0} {i n : Nat} (h : i ≤ n) (e : anyP l w i = true) : anyP l w n = true := by
  unfold anyP at *
  rw [List.any_eq_true] at e ⊢
  obtain ⟨j, hj, e⟩ := e
  rw [List.mem_range] at hj
  exact ⟨j, List.mem_range.mpr (by omega), e⟩
theorem gh_T {H : Hp} {M : List Addr} {t : Addr} {xs : List V} (oc : Occ H M) (ht : H t = none) : gh (upd H t (.tup xs)) M t = some (.tup xs) := gh_lk (oc.no ht) upd_same NotSt.tup
theorem NotSt.two {u v : V} : NotSt (.lst [u, v]) := fun _ _ _ z => by injection z with z; injection z with _ z; injection z with _ z; cases z
theorem NotSt.one {u : V} : NotSt (.lst [u]) := fun _ _ _ z => by injection z with z; injection z with _ z; cases z
theorem z_intB {b : Bool} {H : Hp} {Q : VK} (k : Q (.int (if b then 1 else 0)) H) : uInt [.bl b] H Q := k
theorem All2.append2 {α β : Type} {R : α → β → Prop} {as cs : List α} {bs ds : List β} (h : All2 R as bs) (g : All2 R cs ds) : All2 R (as ++ cs) (bs ++ ds) := by
  induction h with
  | nil => exact g
  | cons h t ih => exact .cons h ih

/-! ### what two crashes leave, in plain -/
theorem leastZ_le {b : St0} {s : List Int} : leastZ b s ≤ s.length := by
  unfold leastZ
  cases b with
  | none => exact Nat.zero_le _
  | some x =>
    simp only
    split
    · rename_i h; rw [← h, List.length_take]; omega
    · exact Nat.zero_le _
theorem leastZ_pos {b : St0} {s : List Int} {q : Nat} (h : q < leastZ b s) : ∃ y, b = some y ∧ s.take y.length = y ∧ leastZ b s = y.length := by
  unfold leastZ at *
  cases b with
  | none => exact absurd h (Nat.not_lt_zero _)
  | some x =>
    simp only at *
    by_cases c : s.take x.length = x
    · rw [if_pos c] at *; exact ⟨x, rfl, c, rfl⟩
    · rw [if_neg c] at h; exact absurd h (Nat.not_lt_zero _)
theorem leastZ_yes {y s : List Int} (h : s.take y.length = y) : leastZ (some y) s = y.length := by unfold leastZ; simp only [if_pos h]
/-- what one crash leaves -/
def W1 (l : List St0) (w : St0) : Prop := w = l.getD 0 none ∨ ∃ k, 0 < k ∧ k < l.length ∧ ((l.getD k none = none ∧ w = none) ∨ ∃ s p, l.getD k none = some s ∧ w = some (s.take p) ∧ leastZ (l.getD (k - 1) none) s ≤ p)
theorem anyP_of {l : List St0} {w : St0} {k : Nat} (h0 : 0 < k) (h1 : k < l.length) (e : pst (l.getD (k - 1) none) (l.getD k none) w = true) : anyP l w (l.length - 1) = true := by
  unfold anyP
  rw [List.any_eq_true]
  refine ⟨k - 1, List.mem_range.mpr (by omega), ?_⟩
  rw [show k - 1 + 1 = k by omega]; exact e
theorem W1.ok {l : List St0} {w : St0} (h : W1 l w) : possB l w = true := by
  unfold possB
  rcases h with h | ⟨k, h0, h1, h | ⟨s, p, e, rfl, hp⟩⟩
  · rw [decide_eq_true h, Bool.true_or]
  · rw [anyP_of h0 h1 (by rw [h.1, h.2]; rfl), Bool.or_true]
  · rw [anyP_of h0 h1 ?_, Bool.or_true]
    rw [e]
    show (decide (leastZ (l.getD (k - 1) none) s ≤ (s.take p).length) && decide (s.take p = s.take (s.take p).length)) = true
    have := leastZ_le (b := l.getD (k - 1) none) (s := s)
    rw [decide_eq_true (by rw [List.length_take]; omega), decide_eq_true (by
      rw [List.length_take]
      by_cases c : p ≤ s.length
      · rw [Nat.min_eq_left c]
      · rw [Nat.min_eq_right (by omega), List.take_of_length_le (by omega), List.take_length])]
    rfl
def stl (f : FS) : List St0 := f.2.1 :: f.2.2
theorem stl_at {f : FS} {k : Nat} (h : k ≤ f.2.2.length) : (stl f).getD k none = stateZ f k := by
  unfold stl stateZ
  cases k with
  | zero => rfl
  | succ k => rw [if_neg (by omega)]; rfl
theorem cur_at {f : FS} : curZ f = (stl f).getD f.2.2.length none := by
  unfold curZ stl
  cases h : f.2.2.length with
  | zero => rw [List.length_eq_zero_iff.mp h]; rfl
  | succ n =>
    rw [List.getLast?_eq_getElem?, h]
    show (f.2.2[n + 1 - 1]?).getD f.2.1 = (f.2.1 :: f.2.2).getD (n + 1) none
    rw [show n + 1 - 1 = n by omega, List.getElem?_eq_getElem (by omega), List.getD_eq_getElem?_getD, List.getElem?_cons_succ, List.getElem?_eq_getElem (by omega)]; rfl
theorem W1.cur {f : FS} : W1 (stl f) (curZ f) := by
  rw [cur_at]
  by_cases h0 : f.2.2.length = 0
  · rw [h0]; exact .inl rfl
  · refine .inr ⟨f.2.2.length, by omega, by unfold stl; simp, ?_⟩
    cases e : (stl f).getD f.2.2.length none with
    | none => exact .inl ⟨rfl, rfl⟩
    | some s => exact .inr ⟨s, s.length, rfl, by rw [List.take_length], leastZ_le⟩
def leftF (cs : List Cut) (f : FS) : St0 := match cutOf f.1 cs with | none => curZ f | some x => leftZ f x.1 x.2
theorem W1.left {f : FS} {k sz : Int} : W1 (stl f) (leftZ f k sz) := by
  unfold leftZ
  by_cases c : k < 0 ∨ (f.2.2.length : Int) < k
  · rw [if_pos c]; exact W1.cur
  · rw [if_neg c]
    have hk : k.toNat ≤ f.2.2.length := by omega
    have e1 := stl_at hk
    by_cases k0 : k = 0
    · subst k0
      have : stateZ f 0 = f.2.1 := rfl
      refine .inl ?_
      show (match stateZ f 0 with | none => none | some s => if (0 : Int) = 0 then some s else _) = f.2.1
      rw [this]
      cases f.2.1 with
      | none => rfl
      | some s => simp
    · refine .inr ⟨k.toNat, by omega, by unfold stl; simp; omega, ?_⟩
      rw [e1]
      cases e : stateZ f k.toNat with
      | none => exact .inl ⟨rfl, rfl⟩
      | some s =>
        refine .inr ⟨s, _, rfl, by simp only; rw [if_neg k0], ?_⟩
        rw [stl_at (by omega)]
        omega
theorem W1.leftF {f : FS} {cs : List Cut} : W1 (stl f) (leftF cs f) := by
  unfold Z.leftF
  split
  · exact W1.cur
  · exact W1.left
theorem crash_sure {f : FS} {cs : List Cut} : (crashF cs f).2.1 = f.2.1 := rfl
theorem crash_name {f : FS} {cs : List Cut} : (crashF cs f).1 = f.1 := rfl
theorem crash_since {f : FS} {cs : List Cut} : (crashF cs f).2.2 = if leftF cs f = f.2.1 then [] else [leftF cs f] := rfl
theorem crash_cur {f : FS} {cs : List Cut} : curZ (crashF cs f) = leftF cs f := by
  unfold curZ
  rw [crash_since, crash_sure]
  by_cases c : leftF cs f = f.2.1
  · rw [if_pos c]; exact c.symm
  · rw [if_neg c]; rfl
theorem chain {l : List St0} {p : Nat} : ∀ (k : Nat) (s : List Int) (p1 : Nat), 0 < k → k < l.length → l.getD k none = some s → leastZ (l.getD (k - 1) none) s ≤ p1 → leastZ (l.getD 0 none) (s.take p1) ≤ p → possB l (some (s.take (min p p1))) = true
  | 0, _, _, h, _, _, _, _ => absurd h (Nat.lt_irrefl _)
  | k + 1, s, p1, _, h1, e, hp1, hp => by
    have hp1 : leastZ (l.getD k none) s ≤ p1 := hp1
    by_cases c : leastZ (l.getD k none) s ≤ min p p1
    · exact W1.ok (.inr ⟨k + 1, by omega, h1, .inr ⟨s, _, e, rfl, c⟩⟩)
    · obtain ⟨y, ey, ty, ly⟩ := leastZ_pos (show min p p1 < leastZ (l.getD k none) s by omega)
      rw [ly] at hp1 c
      have hq : min p p1 = p := by omega
      have tks : s.take (min p p1) = y.take (min p y.length) := by
        have t1 : (s.take y.length).take p = s.take p := by rw [List.take_take, show min p y.length = p by omega]
        rw [ty] at t1
        rw [hq, show min p y.length = p by omega]; exact t1.symm
      rw [tks]
      cases k with
      | zero =>
        exfalso
        rw [ey] at hp
        have : (s.take p1).take y.length = y := by rw [List.take_take, show min y.length p1 = y.length by omega, ty]
        rw [leastZ_yes this] at hp
        omega
      | succ k =>
        refine chain (k + 1) y y.length (by omega) (by omega) ey leastZ_le ?_
        rw [List.take_length]
        refine Nat.le_of_not_lt fun z => ?_
        obtain ⟨zz, ez, tz, lz⟩ := leastZ_pos z
        have lzy : zz.length ≤ y.length := by rw [← tz, List.length_take]; omega
        have : (s.take p1).take zz.length = zz := by
          rw [List.take_take, show min zz.length p1 = zz.length by omega]
          have t2 : (s.take y.length).take zz.length = zz := by rw [ty]; exact tz
          rw [List.take_take, show min zz.length y.length = zz.length by omega] at t2
          exact t2
        rw [ez, leastZ_yes this] at hp
        rw [ez, leastZ_yes tz] at z
        omega
theorem two_ok {f : FS} {c1 c2 : List Cut} : possB (stl f) (curZ (crashF c2 (crashF c1 f))) = true := by
  rw [crash_cur]
  have w2 := W1.leftF (f := crashF c1 f) (cs := c2)
  have w1 := W1.leftF (f := f) (cs := c1)
  generalize leftF c2 (crashF c1 f) = r at *
  have sl : stl (crashF c1 f) = f.2.1 :: (if leftF c1 f = f.2.1 then [] else [leftF c1 f]) := by unfold stl; rw [crash_sure, crash_since]
  rw [sl] at w2
  generalize leftF c1 f = m at *
  have first : r = f.2.1 → possB (stl f) r = true := fun h => W1.ok (.inl h)
  rcases w2 with h | ⟨k, h0, h1, h⟩
  · exact first h
  · by_cases c : m = f.2.1
    · rw [if_pos c] at h1; simp at h1; omega
    · rw [if_neg c] at h1 h
      have : k = 1 := by simp at h1; omega
      subst this
      rcases h with ⟨e, rfl⟩ | ⟨s1, p, e, rfl, hp⟩
      · have e : m = none := e
        rw [← e]; exact w1.ok
      · have e : m = some s1 := e
        have hp : leastZ f.2.1 s1 ≤ p := hp
        rcases w1 with w | ⟨k, k0, k1, w | ⟨s, p1, es, ew, hp1⟩⟩
        · exact absurd w c
        · rw [w.2] at e; cases e
        · rw [e] at ew
          have ew := Option.some.inj ew
          rw [ew, List.take_take]
          rw [ew] at hp
          exact chain k s p1 k0 k1 es hp1 hp

/-! ### the table of a disk, in plain -/
def tab (F : List FS) : List TR := F.map fun f => (f.1, stl f)
theorem tab_len {F : List FS} : (tab F).length = F.length := by unfold tab; simp
theorem tab_at {F : List FS} {i : Nat} (h : i < F.length) : (tab F).getD i dTR = ((F.getD i dFS).1, stl (F.getD i dFS)) := by
  unfold tab
  rw [List.getD_eq_getElem?_getD, List.getElem?_map, List.getElem?_eq_getElem h, List.getD_eq_getElem?_getD, List.getElem?_eq_getElem h]; rfl
theorem tab_names {F : List FS} : (tab F).map (·.1) = F.map (·.1) := by unfold tab; rw [List.map_map]; rfl
theorem ti_tab {F : List FS} {n : Str} : tiZ (tab F) n = fiZ F n := by
  unfold tiZ fiZ tab
  rw [List.findIdx_map]; rfl
theorem last_stl {f : FS} : lastZ (stl f) = curZ f := by
  unfold lastZ stl curZ
  rw [List.getLast?_cons]; rfl
theorem tcont {F : List FS} {n : Str} : tcontZ (tab F) n = contZ F n := by
  unfold tcontZ contZ
  rw [ti_tab, tab_len]
  by_cases h : fiZ F n < F.length
  · rw [if_pos h, if_pos h, tab_at h]; exact last_stl
  · rw [if_neg h, if_neg h]
theorem fi_mem {F : List FS} {n : Str} : fiZ F n < F.length ↔ n ∈ F.map (·.1) := by
  constructor
  · intro h
    exact List.mem_map.mpr ⟨F.getD (fiZ F n) dFS, getD_mem' dFS h, fi_at h⟩
  · intro h
    obtain ⟨f, hf, e⟩ := List.mem_map.mp h
    exact List.findIdx_lt_length_of_exists ⟨f, hf, decide_eq_true e⟩
theorem getD_names {F : List FS} {j : Nat} (h : j < F.length) : (F.map (·.1))[j]'(by simpa using h) = (F.getD j dFS).1 := by
  rw [List.getElem_map, List.getD_eq_getElem?_getD, List.getElem?_eq_getElem h]; rfl
theorem names_inj {F : List FS} (nd : (F.map (·.1)).Nodup) {i j : Nat} (hi : i < F.length) (hj : j < F.length) (e : (F.getD i dFS).1 = (F.getD j dFS).1) : i = j := by
  refine Classical.byContradiction fun n => ?_
  have p := List.pairwise_iff_getElem.mp nd
  rcases Nat.lt_or_gt_of_ne n with z | z
  · exact p i j (by simpa using hi) (by simpa using hj) z (by rw [getD_names hi, getD_names hj]; exact e)
  · exact p j i (by simpa using hj) (by simpa using hi) z (by rw [getD_names hi, getD_names hj]; exact e.symm)
theorem add_tab {F : List FS} {n : Str} {st : St0} (nd : (F.map (·.1)).Nodup) : addZ (tab F) n st = tab (writeZ F n st) := by
  unfold addZ writeZ
  rw [tab_names]
  by_cases h : fiZ F n < F.length
  · rw [if_pos (fi_mem.mp h), if_pos h]
    unfold tab
    rw [List.map_map]
    refine List.ext_getElem (by simp) fun j h1 h2 => ?_
    have hj : j < F.length := by simpa using h1
    rw [List.getElem_map, List.getElem_map, List.getElem_set]
    have ej : F[j] = F.getD j dFS := by rw [List.getD_eq_getElem?_getD, List.getElem?_eq_getElem hj]; rfl
    by_cases e : fiZ F n = j
    · subst e
      rw [if_pos rfl, ej]
      show ((F.getD (fiZ F n) dFS).1, stl (F.getD (fiZ F n) dFS) ++ if (F.getD (fiZ F n) dFS).1 = n then [st] else []) = _
      rw [if_pos (fi_at h)]; rfl
    · rw [if_neg e, ej]
      show ((F.getD j dFS).1, stl (F.getD j dFS) ++ if (F.getD j dFS).1 = n then [st] else []) = _
      rw [if_neg fun z => e (names_inj nd h hj (by rw [fi_at h]; exact z.symm)), List.append_nil]
  · rw [if_neg fun z => h (fi_mem.mpr z), if_neg h]
    unfold tab; rw [List.map_append]; rfl
def syT (r : TR) : TR := (r.1, [lastZ r.2])
theorem sync_tab {F : List FS} : (tab F).map syT = tab (F.map syncF) := by
  unfold tab
  rw [List.map_map, List.map_map]
  congr 1
  funext f
  show (f.1, [lastZ (stl f)]) = _
  rw [last_stl]; rfl
/-- sizes after some turns -/
def SzF (i : Nat) (F : List FS) : Prop := F.length ≤ i ∧ ∀ f ∈ F, f.2.2.length ≤ i ∧ ∀ st ∈ stl f, ∀ s, st = some s → s.length ≤ 3 * i
theorem cont_sz {i : Nat} {F : List FS} {n : Str} {s : List Int} (h : SzF i F) (e : contZ F n = some s) : s.length ≤ 3 * i := by
  unfold contZ at e
  by_cases c : fiZ F n < F.length
  · rw [if_pos c] at e
    have hf := h.2 _ (getD_mem' dFS c)
    refine hf.2 _ ?_ s e
    rw [cur_at]
    exact getD_mem' none (by unfold stl; simp)
  · rw [if_neg c] at e; cases e
theorem SzF.sync {i : Nat} {F : List FS} (h : SzF i F) : SzF (i + 1) (F.map syncF) := by
  refine ⟨by rw [List.length_map]; have := h.1; omega, fun f hf => ?_⟩
  obtain ⟨g, hg, rfl⟩ := List.mem_map.mp hf
  refine ⟨Nat.zero_le _, fun st hst s e => ?_⟩
  have : st = curZ g := by
    rcases List.mem_cons.mp hst with z | z
    · exact z
    · cases z
  subst this
  have := (h.2 g hg).2 (curZ g) (by rw [cur_at]; exact getD_mem' none (by unfold stl; simp)) s e
  omega
theorem SzF.write {i : Nat} {F : List FS} {n : Str} {st : St0} (h : SzF i F) (hs : ∀ s, st = some s → s.length ≤ 3 * (i + 1)) : SzF (i + 1) (writeZ F n st) := by
  unfold writeZ
  have old : ∀ f ∈ F, f.2.2.length ≤ i + 1 ∧ ∀ st ∈ stl f, ∀ s, st = some s → s.length ≤ 3 * (i + 1) := fun f hf => ⟨by have := (h.2 f hf).1; omega, fun st hst s e => by have := (h.2 f hf).2 st hst s e; omega⟩
  by_cases c : fiZ F n < F.length
  · rw [if_pos c]
    refine ⟨by rw [List.length_set]; have := h.1; omega, fun f hf => ?_⟩
    rcases List.mem_or_eq_of_mem_set hf with hf | hf
    · exact old f hf
    · subst hf
      have hg := getD_mem' dFS c
      refine ⟨by have := (h.2 _ hg).1; show ((F.getD (fiZ F n) dFS).2.2 ++ [st]).length ≤ i + 1; rw [List.length_append]; show _ + 1 ≤ _; omega, fun st2 hst s e => ?_⟩
      have : st2 ∈ stl (F.getD (fiZ F n) dFS) ∨ st2 = st := by
        rcases List.mem_cons.mp hst with z | z
        · exact .inl (by rw [z]; exact List.mem_cons_self ..)
        · rcases List.mem_append.mp z with z | z
          · exact .inl (List.mem_cons_of_mem _ z)
          · exact .inr (List.mem_singleton.mp z)
      rcases this with z | z
      · exact (old _ hg).2 st2 z s e
      · exact hs s (by rw [← z]; exact e)
  · rw [if_neg c]
    refine ⟨by simp; have := h.1; omega, fun f hf => ?_⟩
    rcases List.mem_append.mp hf with hf | hf
    · exact old f hf
    · rw [List.mem_singleton.mp hf]
      refine ⟨by simp, fun st2 hst s e => ?_⟩
      rcases List.mem_cons.mp hst with z | z
      · rw [z] at e; cases e
      · exact hs s (by rw [← List.mem_singleton.mp z]; exact e)
theorem SzF.bd {i : Nat} {F : List FS} (h : SzF i F) (hi : i ≤ 1000) : BdF F := ⟨by have := h.1; omega, fun f hf => by have := (h.2 f hf).1; omega⟩
theorem write_nodup {F : List FS} {n : Str} {st : St0} (nd : (F.map (·.1)).Nodup) : ((writeZ F n st).map (·.1)).Nodup := by
  unfold writeZ
  by_cases c : fiZ F n < F.length
  · rw [if_pos c, List.map_set]
    have : (F.map (·.1)).set (fiZ F n) (apF (F.getD (fiZ F n) dFS) st).1 = F.map (·.1) := by
      refine List.ext_getElem (by simp) fun j h1 h2 => ?_
      rw [List.getElem_set]
      split
      · rename_i e; subst e; rw [getD_names c]; rfl
      · rfl
    rw [this]; exact nd
  · rw [if_neg c, List.map_append]
    refine List.nodup_append.mpr ⟨nd, by simp, fun a ha b hb => ?_⟩
    rw [List.mem_singleton.mp hb]; exact fun z => c (fi_mem.mpr (by rw [← show a = n from z]; exact ha))
theorem sync_nodup {F : List FS} (nd : (F.map (·.1)).Nodup) : ((F.map syncF).map (·.1)).Nodup := by rw [List.map_map]; exact nd
theorem ask_remove {F : List FS} {n : Str} {xs : List Int} (h : ¬ contZ F n = none) : askZ F "remove" n xs = (writeZ F n none, .done) := by
  unfold askZ
  rw [if_pos (by rw [decide_eq_false h]; decide), if_neg (by decide), if_pos rfl]
theorem ask_make {F : List FS} {n : Str} {xs : List Int} (h : contZ F n = none) : askZ F "make" n xs = (writeZ F n (some xs), .done) := by
  unfold askZ
  rw [if_pos (by rw [decide_eq_true h]; decide), if_neg (by decide), if_neg (by decide), if_pos rfl]
theorem ask_append {F : List FS} {n : Str} {xs s : List Int} (h : contZ F n = some s) : askZ F "append" n xs = (writeZ F n (some (s ++ xs)), .done) := by
  unfold askZ
  rw [if_pos (by rw [decide_eq_false (by rw [h]; intro z; cases z)]; decide), if_neg (by decide), if_neg (by decide), if_neg (by decide), h]; rfl
/-! ### asking -/
theorem Draw.hid {H H' : Hp} {M : List Addr} {st L : Addr} (d0 : Draw (Z.hid H M) st L) (d : Draw H' st L) : Draw (Z.hid H' M) st L := by
  obtain ⟨ns, k, a, e, s, n, hk, ha⟩ := d.ex
  obtain ⟨_, _, _, e0, s0, _⟩ := d0.ex
  have n1 : st ∉ M := fun z => by rw [hid_in z] at e0; cases e0
  have n2 : L ∉ M := fun z => by rw [hid_in z] at s0; cases s0
  exact ⟨ns, k, a, hid_lk n1 e, hid_lk n2 s, n, hk, ha⟩
section
variable {K : PySem.W.Frag} {c : CEnv} {H : Hp} {d t op : Addr} {M : List Addr} {qs : List (Addr × Addr)} {F : List FS} {Q : VK} {E : XK}
theorem Disk_ask_sync (D : DiskIn K c H d M t qs F) (eop : SqT K H op [.str "sync"]) (bd : BdF F) (lx : ((contZ F "").getD []).length ≤ 100000) (k : ∀ r H' M' qs', MvR H M H' M' → DiskIn K c H' d M' t qs' (F.map syncF) → hid H' M' r = some (.tup [.str "done"]) → Q (.ref r) H') : sp_Disk_ask K c [.ref d, .ref op] H Q E :=
  ⟨d, t, op, "sync", "", [], [], M, qs, F, rfl, eop, D, bd, by simpa using lx, fun z => absurd (by decide) z, fun z => absurd z (by decide), fun _ r H' M' qs' mv D' e _ => k r H' M' qs' mv D' e, fun _ _ z => absurd rfl z⟩
theorem Disk_ask_op {w n : Str} {xs : List Int} (hw : w ∈ WRDK ∧ w ≠ "names" ∧ w ≠ "sync") (hop : OpAt K H op w n xs) (D : DiskIn K c H d M t qs F) (bd : BdF F) (lx : xs.length + ((contZ F n).getD []).length ≤ 100000) (k : ∀ r H' M' qs', MvR H M H' M' → DiskIn K c H' d M' t qs' (askZ F w n xs).1 → ReplyAt H H' (hid H' M') r (askZ F w n xs).2 → H r = none → Q (.ref r) H') : sp_Disk_ask K c [.ref d, .ref op] H Q E := by
  obtain ⟨rest, e⟩ := hop.at1
  exact ⟨d, t, op, w, n, _, xs, M, qs, F, rfl, e, D, bd, lx, fun z => absurd hw.1 z, fun z => absurd z hw.2.1, fun z => absurd z hw.2.2, fun _ _ _ => ⟨hop, k⟩⟩
end
theorem cut_last {ms : List V} (h : 0 < ms.length) : cutV ms (some ((ms.length : Int) - 1)) none = [ms.getD (ms.length - 1) .non] := by
  unfold cutV
  rw [sIx_pos (by omega), show ((ms.length : Int) - 1).toNat = ms.length - 1 by omega, show min (ms.length - 1) ms.length = ms.length - 1 by omega]
  show (ms.drop (ms.length - 1)).take (ms.length - (ms.length - 1)) = _
  rw [List.drop_eq_getElem_cons (by omega), show ms.length - 1 + 1 = ms.length by omega, List.drop_length, show ms.length - (ms.length - 1) = 1 by omega, List.getD_eq_getElem?_getD, List.getElem?_eq_getElem (by omega)]; rfl
theorem abc_at {n : Int} (h0 : 0 ≤ n) (h1 : n < 3) : ∃ x : Str, atI [V.str "a", V.str "b", V.str "c"] n = some (.str x) := by
  have : n = 0 ∨ n = 1 ∨ n = 2 := by omega
  rcases this with rfl | rfl | rfl
  · exact ⟨"a", rfl⟩
  · exact ⟨"b", rfl⟩
  · exact ⟨"c", rfl⟩

/-! ### the law's table, whose rows change -/
theorem OAt.noStr {G : Hp} {x : Str} {st : St0} (h : OAt G (.str x) st) : False := by
  cases st with
  | none => cases (show V.str x = .non from h)
  | some xs => obtain ⟨a, e, _⟩ := h; cases e
theorem NotSt.row {n : Str} {r : List V} : NotSt (.lst (.str n :: r)) := fun _ _ _ z => by injection z with z; injection z with z _; cases z
/-- a row that may change, with states that stay in G -/
def RowM (H G : Hp) (a : Addr) (r : TR) : Prop := ∃ s ms, H a = some (.lst [.str r.1, .non, .ref s]) ∧ G s = some (.lst ms) ∧ All2 (OAt G) ms r.2
theorem RowM.same {H H' G G' : Hp} {a : Addr} {r : TR} (h : RowM H G a r) (s : ∀ o, H a = some o → H' a = some o) (g : Same G G') : RowM H' G' a r := by
  obtain ⟨t, ms, e, f, o⟩ := h
  exact ⟨t, ms, s _ e, g _ _ f, All2.imp (fun _ _ h => h.same g) o⟩
structure TbM (H : Hp) (M : List Addr) (p : Addr) (ps : List Addr) (T : List TR) : Prop where
  tb : H p = some (.lst (ps.map V.ref))
  rows : All2 (RowM H (gh H M)) ps T
  nd : ps.Nodup
  mem : ∀ a ∈ ps, a ∈ M
  np : p ∉ M
section
variable {K : PySem.W.Frag} {c : CEnv} {H H' : Hp} {d t p : Addr} {M M' : List Addr} {qs : List (Addr × Addr)} {F : List FS} {ps : List Addr} {T : List TR}
theorem TbM.len (h : TbM H M p ps T) : ps.length = T.length := All2.len h.rows
theorem TbM.at (h : TbM H M p ps T) {i : Nat} (hi : i < T.length) : RowM H (gh H M) (ps.getD i 0) (T.getD i dTR) := All2.atD h.rows 0 dTR hi
theorem TbM.same (h : TbM H M p ps T) (s : Same H H') : TbM H' M p ps T := ⟨s _ _ h.tb, All2.imp (fun _ _ r => r.same (fun _ e => s _ _ e) (gh_same s)) h.rows, h.nd, h.mem, h.np⟩
theorem TbM.exd (h : TbM H M p ps T) (s : ExD H H') : TbM H' M p ps T := ⟨s _ _ NotSt.refs h.tb, All2.imp (fun _ _ r => by
  obtain ⟨t, ms, e, f, o⟩ := r
  exact ⟨t, ms, s _ _ NotSt.row e, gh_exd s _ _ f, All2.imp (fun _ _ h => h.same (gh_exd s)) o⟩) h.rows, h.nd, h.mem, h.np⟩
/-- a row is no part of a disk -/
theorem DiskIn.row (D : DiskIn K c H d M t qs F) {a : Addr} {n : Str} {r : List V} (ha : H a = some (.lst (.str n :: r))) (hm : a ∈ M) {o : HO} (no : NotSt o) : DiskIn K c (upd H a o) d M t qs F := by
  obtain ⟨ok, dx, ed⟩ := D.ins
  have na : ∀ {x : Addr} {u : HO}, H x = some u → u ≠ .lst (.str n :: r) → x ≠ a := fun e h z => by subst z; rw [ha] at e; exact h (Option.some.inj e).symm
  have eg : gh (upd H a o) M = gh H M := gh_put hm
  refine ⟨⟨ok, dx, lk_ne (na ed (fun z => by cases z)) ed⟩, lk_ne (na D.tb (fun z => ?_)) D.tb, ?_, D.nd1, D.nd2, D.md, D.mt, D.mq, D.oc.put no⟩
  · injection z with z
    cases qs with
    | nil => cases z
    | cons q qs => injection z with z _; cases z
  · rw [eg]
    refine All2.imp (fun q f h => h.lks (Same.refl _) (fun u e => ?_) (fun u e => ?_)) D.fl
    · obtain ⟨dx3, fs3, e3, _⟩ := h.ex1
      rw [e3] at e
      rw [← Option.some.inj e]
      exact lk_ne (na e3 (fun z => by cases z)) e3
    · obtain ⟨v, ms, _, e4, _, os⟩ := h
      rw [e4] at e
      rw [← Option.some.inj e]
      refine lk_ne (na e4 (fun z => ?_)) e4
      injection z with z
      subst z
      replace os : All2 (OAt (gh H M)) (.str n :: r) f.2.2 := os
      generalize f.2.2 = fl2 at os
      cases os with
      | cons h1 t1 => exact h1.noStr
/-- one more place that may change -/
theorem DiskIn.extN (D : DiskIn K c H d M t qs F) {k : Addr} {o : HO} (hk : H k = none) (no : NotSt o) : DiskIn K c (upd H k o) d (k :: M) t qs F := by
  have s : Same H (upd H k o) := Same.new hk (Same.refl _)
  exact ⟨D.ins.same s, s _ _ D.tb, All2.imp (fun _ _ h => h.same s (gh_of hk s)) D.fl, D.nd1, D.nd2, List.mem_cons_of_mem _ D.md, List.mem_cons_of_mem _ D.mt, fun q h => ⟨List.mem_cons_of_mem _ (D.mq q h).1, List.mem_cons_of_mem _ (D.mq q h).2⟩, OccN.cons no upd_same (D.oc.same s)⟩
/-- what moves the disk leaves the rows -/
theorem TbM.mv (h : TbM H M p ps T) (s : ∀ a, a ∈ ps → ∀ o, H a = some o → H' a = some o) (sp : ∀ o, H p = some o → H' p = some o) (g : Same (gh H M) (gh H' M')) (sub : ∀ a ∈ M, a ∈ M') (np : p ∉ M') : TbM H' M' p ps T :=
  ⟨sp _ h.tb, All2.impM (fun a ha _ r => r.same (s a ha) g) h.rows, h.nd, fun a ha => sub a (h.mem a ha), np⟩
theorem TbM.disk (h : TbM H M p ps T) (m : MvR H M H' M') : TbM H' M' p ps T := by
  have e := m.same _ _ (hid_lk h.np h.tb)
  have np : p ∉ M' := fun z => by rw [hid_in z] at e; cases e
  refine ⟨hid_le _ _ e, All2.imp (fun _ _ r => ?_) h.rows, h.nd, fun a ha => m.sub a (h.mem a ha), np⟩
  obtain ⟨t, ms, e, f, o⟩ := r
  exact ⟨t, ms, m.row _ _ _ e, m.gh _ _ f, All2.imp (fun _ _ h => h.same m.gh) o⟩
/-- a smaller place that may change -/
theorem DiskIn.less (D : DiskIn K c H d M t qs F) (h : ∀ a ∈ M', a ∈ M) (hd : d ∈ M') (ht : t ∈ M') (hq : ∀ q ∈ qs, q.1 ∈ M' ∧ q.2 ∈ M') : DiskIn K c H d M' t qs F :=
  ⟨D.ins, D.tb, All2.imp (fun _ _ r => r.same (Same.refl _) (gh_hid (hid_sub h))) D.fl, D.nd1, D.nd2, hd, ht, hq, fun a ha => D.oc a (h a ha)⟩
end
abbrev N_law_contents : List Str := ["_law_table", "_law_name", "_law_row_here"]
-- _law_contents(_law_table, _law_name): slots 0:_law_table 1:_law_name 2:_law_row_here
def T_law_contents_b1 (K : PySem.W.Frag) : TS :=
    (tIfS (tTest (tOp (uEq K) (tOp (uIx K) (tVar 2) (tC (.int 0))) (tVar 1))) (tRet (tOp (uIx K) (tOp (uIx K) (tVar 2) (tC (.int 2))) (tOp uSub (tCB (uLen K) (tCons (tOp (uIx K) (tVar 2) (tC (.int 2))) tNil)) (tC (.int 1))))) tNext)
def T_law_contents (K : PySem.W.Frag) : TS :=
    (tSeq (tFor (iSq K (tVar 0)) (gName 2) (T_law_contents_b1 K))
    (tRet (tC .non)))

def sp_law_contents (K : PySem.W.Frag) : Sp := fun vs H Q _ => ∃ (p : Addr) (n : Str) (M : List Addr) (ps : List Addr) (T : List TR), vs = [.ref p, .str n] ∧ TbM H M p ps T ∧ (∀ r ∈ T, r.2 ≠ []) ∧ T.length ≤ 1000 ∧ ∀ v, OAt (gh H M) v (tcontZ T n) → Q v H
theorem law_contents_c {K : PySem.W.Frag} {p : Addr} {n : Str} {M ps : List Addr} {H : Hp} {T : List TR} {Q : VK} {E : XK} (h : TbM H M p ps T) (ne : ∀ r ∈ T, r.2 ≠ []) (hl : T.length ≤ 1000) (q : ∀ v, OAt (gh H M) v (tcontZ T n) → Q v H) : sp_law_contents K [.ref p, .str n] H Q E := ⟨p, n, M, ps, T, rfl, h, ne, hl, q⟩
theorem last_ix {ms : List V} (h : 0 < ms.length) : atI ms ((ms.length : Int) - 1) = some (ms.getD (ms.length - 1) .non) := by
  unfold atI
  rw [ix_at (by omega) (by omega)]
  show ms[((ms.length : Int) - 1).toNat]? = _
  rw [show ((ms.length : Int) - 1).toNat = ms.length - 1 by omega, List.getD_eq_getElem?_getD, List.getElem?_eq_getElem (by omega)]; rfl
theorem last_o {G : Hp} {ms : List V} {l : List St0} (os : All2 (OAt G) ms l) (h : 0 < l.length) : OAt G (ms.getD (ms.length - 1) .non) (lastZ l) := by
  have lms := All2.len os
  have ol := All2.atD os V.non none (i := l.length - 1) (by omega)
  rw [show l.length - 1 = ms.length - 1 by omega] at ol
  unfold lastZ
  rw [List.getLast?_eq_getElem?, ← lms, ← List.getD_eq_getElem?_getD]
  exact ol
theorem w_law_contents {K : PySem.W.Frag} : Wd (T_law_contents K) N_law_contents 2 (sp_law_contents K) := fun vs H Q E h => by
  obtain ⟨p, n, M, ps, T, rfl, tm, ne, hT, q⟩ := h
  have hl := tm.len
  have ep := tm.tb
  refine ⟨rfl, ?_⟩
  show T_law_contents K _ [some (.ref p), some (.str n), none] H
  unfold T_law_contents
  walk_at "zz"
  refine z_forL (SqL.of ep) (fun i σ H' => H' = H ∧ (∀ j, j < i → (T.getD j dTR).1 ≠ n) ∧ ∃ v, σ = [some (.ref p), some (.str n), v]) ⟨rfl, fun j hj => absurd hj (Nat.not_lt_zero _), _, rfl⟩ (fun i σ' H' _ z => z.1 ▸ SqL.of ep) ?_ ?_
  · rintro i x σ H' hx ⟨rfl, no, v, rfl⟩
    obtain ⟨hi, rfl⟩ := map_ref hx
    have hi2 : i < T.length := by omega
    have ra := tm.at hi2
    have te := ti_eq (n := n) hi2 no
    have nei := ne _ (getD_mem' dTR hi2)
    unfold tcontZ at q
    generalize hr : T.getD i dTR = r at *
    obtain ⟨rn, rl⟩ := r
    obtain ⟨s, ms, ea, es, os⟩ := ra
    have lms : ms.length = rl.length := All2.len os
    have l0 : 0 < rl.length := List.length_pos_iff.mpr nei
    have lo := last_o os l0
    replace es := gh_le _ _ es
    generalize ps.getD i 0 = a at *
    replace ea : H' a = some (.lst [.str rn, .non, .ref s]) := ea
    unfold T_law_contents_b1
    walk_at "zz"
    by_cases c1 : rn = n
    · rw [decide_eq_true c1]
      rw [te c1, if_pos hi2, hr] at q
      walk_at "zx"
      try refine z_ix (.inl (SqL.of es)) (last_ix (by omega)) ?_
      exact q _ lo
    · rw [decide_eq_false c1]
      walk_at "zx"
      refine ⟨rfl, fun j hj => ?_, _, rfl⟩
      by_cases ej : j = i
      · subst ej; rw [hr]; exact c1
      · exact no j (by omega)
  · rintro σ H' ⟨rfl, no, v, rfl⟩
    have := ti_no (T := T) (n := n) (fun j hj => no j (by rw [List.length_map]; omega))
    unfold tcontZ at q
    rw [if_neg (by omega)] at q
    walk_at "zz"
    exact q _ rfl
abbrev N_law_left : List Str := ["_law_states", "_law_number", "_law_size", "_law_worth", "_law_before", "_law_least"]
-- _law_left(_law_states, _law_number, _law_size): slots 0:_law_states 1:_law_number 2:_law_size 3:_law_worth 4:_law_before 5:_law_least
def T_law_left (K : PySem.W.Frag) : TS :=
    (tSeq (tIfS (tOr (tTest (tOp (uLt K) (tVar 1) (tC (.int 0)))) (tTest (tOp uGe (tVar 1) (tCB (uLen K) (tCons (tVar 0) tNil))))) (tRet (tOp (uIx K) (tVar 0) (tOp uSub (tCB (uLen K) (tCons (tVar 0) tNil)) (tC (.int 1))))) tNext)
    (tSeq (tAsg (tOp (uIx K) (tVar 0) (tVar 1)) (gName 3))
    (tSeq (tIfS (tOr (tTest (tOp (uEq K) (tVar 1) (tC (.int 0)))) (tTest (tOp uIs (tVar 3) (tC .non)))) (tRet (tVar 3)) tNext)
    (tSeq (tAsg (tOp (uIx K) (tVar 0) (tOp uSub (tVar 1) (tC (.int 1)))) (gName 4))
    (tSeq (tAsg (tC (.int 0)) (gName 5))
    (tCut (tIfS (tAnd (tTest (tOp uIsNot (tVar 4) (tC .non))) (tTest (tOp (uEq K) (tSl (uSl K) (tVar 3) tNoPart (tPart (tCB (uLen K) (tCons (tVar 4) tNil)))) (tVar 4)))) (tAsg (tCB (uLen K) (tCons (tVar 4) tNil)) (gName 5)) tNext)
    (tRet (tSl (uSl K) (tVar 3) tNoPart (tPart (tCB uMax (tCons (tVar 2) (tCons (tVar 5) tNil))))))))))))

def lleft (l : List St0) (k sz : Int) : St0 := if k < 0 ∨ (l.length : Int) ≤ k then lastZ l else match l.getD k.toNat none with
  | none => none
  | some s => if k = 0 then some s else some (s.take (max sz (leastZ (l.getD (k.toNat - 1) none) s)).toNat)
theorem lleft_stl {f : FS} {k sz : Int} : lleft (stl f) k sz = leftZ f k sz := by
  unfold lleft leftZ
  have hl : ((stl f).length : Int) = (f.2.2.length : Int) + 1 := by unfold stl; simp
  by_cases c : k < 0 ∨ ((stl f).length : Int) ≤ k
  · rw [if_pos c, if_pos (by omega)]; exact last_stl
  · rw [if_neg c, if_neg (by omega), stl_at (by omega)]
    cases stateZ f k.toNat with
    | none => rfl
    | some s =>
      simp only
      by_cases k0 : k = 0
      · rw [if_pos k0, if_pos k0]
      · rw [if_neg k0, if_neg k0, stl_at (by omega)]
def sp_law_left (K : PySem.W.Frag) : Sp := fun vs H Q _ => ∃ (s : Addr) (k sz : Int) (M : List Addr) (ms : List V) (l : List St0), vs = [.ref s, .int k, .int sz] ∧ gh H M s = some (.lst ms) ∧ All2 (OAt (gh H M)) ms l ∧ Occ H M ∧ 0 ≤ sz ∧ 0 < l.length ∧ l.length ≤ 1000 ∧ ∀ v H', Same H H' → OAt (gh H' M) v (lleft l k sz) → Q v H'
theorem w_law_left {K : PySem.W.Frag} : Wd (T_law_left K) N_law_left 3 (sp_law_left K) := fun vs H Q E h => by
  obtain ⟨s, k, sz, M, ms, l, rfl, gs, os, oc, hsz, l0, hl, q⟩ := h
  have es := gh_le _ _ gs
  have lms := All2.len os
  have lo := last_o os l0
  have at_ : ∀ i : Nat, i < l.length → atI ms (i : Int) = some (ms.getD i .non) := fun i hi => by
    unfold atI
    rw [ix_at (by omega) (by omega)]
    show ms[(i : Int).toNat]? = _
    rw [Int.toNat_natCast, List.getD_eq_getElem?_getD, List.getElem?_eq_getElem (by omega)]; rfl
  have oat : ∀ i : Nat, i < l.length → OAt (gh H M) (ms.getD i .non) (l.getD i none) := fun i hi => All2.atD os V.non none hi
  refine ⟨rfl, ?_⟩
  show T_law_left K _ [some (.ref s), some (.int k), some (.int sz), none, none, none] H
  unfold T_law_left
  unfold lleft at q
  walk_at "zz"
  by_cases c1 : k < 0
  · rw [decide_eq_true c1]
    rw [if_pos (.inl c1)] at q
    walk_at "zx"
    try refine z_ix (.inl (SqL.of es)) (last_ix (by omega)) ?_
    exact q _ H (Same.refl _) lo
  rw [decide_eq_false c1]
  walk_at "zx"
  by_cases c2 : (l.length : Int) ≤ k
  · rw [decide_eq_true (show (ms.length : Int) ≤ k by omega)]
    rw [if_pos (.inr c2)] at q
    walk_at "zx"
    try refine z_ix (.inl (SqL.of es)) (last_ix (by omega)) ?_
    exact q _ H (Same.refl _) lo
  rw [decide_eq_false (show ¬ (ms.length : Int) ≤ k by omega)]
  rw [if_neg (by omega)] at q
  walk_at "zx"
  obtain ⟨k', rfl⟩ : ∃ k' : Nat, k = (k' : Int) := ⟨k.toNat, by omega⟩
  rw [Int.toNat_natCast] at q
  try refine z_ix (.inl (SqL.of es)) (at_ k' (by omega)) ?_
  walk_at "zz"
  have o1 := oat k' (by omega)
  generalize ms.getD k' .non = u1 at *
  cases hk : l.getD k' none with
  | none =>
    rw [hk] at o1 q
    obtain rfl : u1 = .non := o1
    by_cases k0 : k' = 0
    · rw [decide_eq_true (show (k' : Int) = 0 by omega)]
      walk_at "zx"
      exact q _ H (Same.refl _) rfl
    · rw [decide_eq_false (show ¬ (k' : Int) = 0 by omega)]
      walk_at "zx"
      try rw [decide_eq_true (show V.non = .non from rfl)]
      walk_at "zx"
      exact q _ H (Same.refl _) rfl
  | some x =>
    rw [hk] at o1 q
    simp only at q
    by_cases k0 : k' = 0
    · rw [decide_eq_true (show (k' : Int) = 0 by omega)]
      rw [if_pos (show (k' : Int) = 0 by omega)] at q
      walk_at "zx"
      exact q _ H (Same.refl _) o1
    · rw [decide_eq_false (show ¬ (k' : Int) = 0 by omega)]
      rw [if_neg (show ¬ (k' : Int) = 0 by omega)] at q
      obtain ⟨a, rfl, ea⟩ := o1
      replace ea := gh_le _ _ ea
      walk_at "zx"
      try rw [decide_eq_false (show ¬ V.ref a = .non from fun z => by cases z)]
      walk_at "zx"
      rw [show (k' : Int) - 1 = ((k' - 1 : Nat) : Int) by omega]
      have o0 := oat (k' - 1) (by omega)
      have a0 := at_ (k' - 1) (by omega)
      generalize ms.getD (k' - 1) .non = u0 at *
      generalize l.getD (k' - 1) none = b0 at *
      try refine z_ix (.inl (SqL.of es)) a0 ?_
      walk_at "zz"
      have tk : ∀ m : Int, 0 ≤ m → cutV (x.map V.int) none (some m) = (x.take m.toNat).map V.int := fun m hm => by
        rw [cutV_ints, sIx_pos hm]
        show ((x.drop 0).take (min m.toNat x.length - 0)).map V.int = _
        rw [List.drop_zero, Nat.sub_zero]
        congr 1
        rw [List.take_eq_take_iff]; omega
      refine z_cut (fun σ' H2 => Same H H2 ∧ σ' = [some (.ref s), some (.int (k' : Int)), some (.int sz), some (.ref a), some u0, some (.int (leastZ b0 x : Nat))]) ?_ ?_
      · walk_at "zz"
        cases b0 with
        | none =>
          obtain rfl : u0 = .non := o0
          try rw [decide_eq_true (show V.non = .non from rfl)]
          walk_at "zx"
          exact ⟨Same.refl _, rfl⟩
        | some y =>
          obtain ⟨b, rfl, eb⟩ := o0
          replace eb := gh_le _ _ eb
          try rw [decide_eq_false (show ¬ V.ref b = .non from fun z => by cases z)]
          walk_at "zx"
          rename_i sl hsl
          rw [List.length_map, tk _ (by omega), Int.toNat_natCast]
          have s2 : Same H (upd H sl (.lst ((x.take y.length).map V.int))) := Same.new hsl (Same.refl _)
          have eb2 := s2 _ _ eb
          refine z_eqO (a := some (x.take y.length)) (b := some y) ⟨sl, rfl, upd_same⟩ ⟨b, rfl, eb2⟩ ?_
          walk_at "zz"
          have le : leastZ (some y) x = if x.take y.length = y then y.length else 0 := rfl
          rw [le]
          by_cases c3 : x.take y.length = y
          · rw [decide_eq_true (by rw [c3]), if_pos c3]
            walk_at "zx"
            rw [List.length_map]
            exact ⟨s2, rfl⟩
          · rw [decide_eq_false (fun z => c3 (Option.some.inj z)), if_neg c3]
            walk_at "zx"
            exact ⟨s2, rfl⟩
      · rintro σ' H2 ⟨s2, rfl⟩
        have ea2 := s2 _ _ ea
        walk_at "zz"
        rename_i sl hsl
        have em : (if (leastZ b0 x : Int) > sz then (leastZ b0 x : Int) else sz) = max sz (leastZ b0 x : Int) := by split <;> omega
        rw [em, tk _ (by omega)]
        exact q _ _ (Same.new hsl s2) ⟨sl, rfl, gh_lk ((oc.same s2).no hsl) upd_same NotSt.ints⟩

abbrev N_law_asked : List Str := ["_law_disk", "_law_operation"]
-- _law_asked(_law_disk, _law_operation): slots 0:_law_disk 1:_law_operation
def T_law_asked (K : PySem.W.Frag) (c : CEnv) : TS :=
    (sTryM K c [("InvalidOperation", (tRet (tC .non))), ("SurenearError", (tRet (tTup (tCons (tC (.str "another error")) tNil))))] ["InvalidOperation"] (fun W => (tRet (tMtX c "Disk" "ask" (sp_Disk_ask K c) W (tVar 0) (tCons (tVar 1) tNil)))) W0)

def sp_law_asked (K : PySem.W.Frag) (c : CEnv) : Sp := fun vs H Q E => ∃ (d op : Addr), vs = [.ref d, .ref op] ∧ (∃ dx fs, H d = some (.ins (c.cls "Disk") dx fs) ∧ fs.lookup ("ask" : Str) = none) ∧ sp_Disk_ask K c [.ref d, .ref op] H Q (fun v w H' => v = .ref (c.cls "InvalidOperation") → Q .non H')
theorem w_law_asked {K : PySem.W.Frag} {c : CEnv} : Wd (T_law_asked K c) N_law_asked 2 (sp_law_asked K c) := fun vs H Q E h => by
  obtain ⟨d, op, rfl, ⟨dx, fs, ed, lk⟩, h⟩ := h
  refine ⟨rfl, ?_⟩
  show T_law_asked K c _ [some (.ref d), some (.ref op)] H
  unfold T_law_asked
  walk_at "zz"
  rename_i hex
  refine ⟨_, _, _, rfl, ed, lk, ?_⟩
  walk_at "zz"
  obtain ⟨d', t, op', w, n, rest, xs, M, qs, F, e0, eop, D, bd, lx, bad, qn, qy, qf⟩ := h
  injection e0 with e1 e0
  injection e1 with e1
  injection e0 with e2 _
  injection e2 with e2
  subst e1
  subst e2
  refine ⟨d, t, op, w, n, rest, xs, M, qs, F, rfl, eop, D, bd, lx, fun z => ?_, qn, qy, qf⟩
  refine z_caughtM (hex _ (by simp) _ (by simp)) (by decide +kernel) ?_
  walk_at "zz"
  exact bad z rfl
abbrev N_law_numbers : List Str := ["_law_state", "_law_k"]
-- _law_numbers(_law_state): slots 0:_law_state 1:_law_k
def T_law_numbers (K : PySem.W.Frag) : TS :=
    (tRet (tLc (iRng1 (tCons (tCal (sp_law_next K) (tCons (tVar 0) (tCons (tC (.int 4)) tNil))) tNil)) (gName 1) tYes (tCal (sp_law_next K) (tCons (tVar 0) (tCons (tC (.int 4)) tNil))) [1]))

def sp_law_numbers (K : PySem.W.Frag) : Sp := fun vs H Q _ => ∃ (st L : Addr) (M : List Addr), vs = [.ref st] ∧ Draw (hid H M) st L ∧ OccN H M ∧ ∀ A (ns : List Int) H', A ∉ M → ExD H H' → Draw (hid H' M) st L → H' A = some (.lst (ns.map V.int)) → ns.length ≤ 3 → Q (.ref A) H'
theorem w_law_numbers {K : PySem.W.Frag} : Wd (T_law_numbers K) N_law_numbers 1 (sp_law_numbers K) := fun vs H Q E h => by
  obtain ⟨st, L, M, rfl, d0, oc, q⟩ := h
  refine ⟨rfl, ?_⟩
  show T_law_numbers K _ [some (.ref st), none] H
  unfold T_law_numbers
  walk_at "zz"
  refine law_next_c (d0.same hid_le) (by decide) (by decide) fun n3 H7 a7 b7 d7 x7 => ?_
  replace d7 := Draw.hid d0 d7
  walk_at "zz"
  refine z_lcr1 (by omega) ?_
  refine z_lcr (fun C j H' => ExD H7 H' ∧ Draw (hid H' M) st L ∧ ∃ acc : List Int, H' C = some (.lst (acc.map V.int)) ∧ acc.length = j) (fun C hC => ⟨ExD.new hC (ExD.refl _), d7.same (hid_same (Same.new hC (Same.refl _))), [], upd_same, rfl⟩) ?_ ?_
  · rintro C j H8 hC hj ⟨x8, d8, acc, eC, la⟩
    walk_at "zz"
    refine ⟨rfl, ?_⟩
    walk_at "zz"
    refine law_next_c (d8.same hid_le) (by decide) (by decide) fun n4 H9 a9 b9 d9 x9 => ?_
    replace d9 := Draw.hid d8 d9
    have nC1 : C ≠ st := Draw.ne hC (d7.same hid_le)
    have nC2 : C ≠ L := Draw.neL hC (d7.same hid_le)
    refine z_accum (x9.lk eC NotSt.ints) (by rw [List.length_map]; omega) ?_
    exact ⟨ExD.new hC (x8.trans x9), Draw.hid d9 (Draw.put nC1 nC2 (d9.same hid_le)), acc ++ [n4], by rw [upd_same, List.map_append]; rfl, by simp [la]⟩
  rintro A H8 hA ⟨x8, d8, ns, eA, la⟩
  walk_at "zz"
  exact q A ns H8 ((oc.exd x7).occ.no hA) (x7.trans x8) d8 eA (by omega)
abbrev N_law_write : List Str := ["_law_table", "_law_name", "_law_worth", "_law_row_here"]
-- _law_write(_law_table, _law_name, _law_worth): slots 0:_law_table 1:_law_name 2:_law_worth 3:_law_row_here
def T_law_write_b1 (K : PySem.W.Frag) : TS :=
    (tIfS (tTest (tOp (uEq K) (tOp (uIx K) (tVar 3) (tC (.int 0))) (tVar 1))) (tSeq (tAsg (tOp (uAdd K) (tOp (uIx K) (tVar 3) (tC (.int 2))) (tLst (tCons (tVar 2) tNil))) (gSub (tVar 3) (tC (.int 2)) rSetL))
    (tRet (tVar 0))) tNext)
def T_law_write (K : PySem.W.Frag) : TS :=
    (tSeq (tFor (iSq K (tVar 0)) (gName 3) (T_law_write_b1 K))
    (tRet (tOp (uAdd K) (tVar 0) (tLst (tCons (tLst (tCons (tVar 1) (tCons (tC .non) (tCons (tLst (tCons (tC .non) (tCons (tVar 2) tNil))) tNil)))) tNil)))))

theorem DiskIn.putN {K : PySem.W.Frag} {c : CEnv} {H : Hp} {d t a : Addr} {M : List Addr} {qs : List (Addr × Addr)} {F : List FS} (D : DiskIn K c H d M t qs F) (h1 : a ≠ d) (h2 : a ≠ t) (h3 : ∀ q ∈ qs, a ≠ q.1 ∧ a ≠ q.2) (hm : a ∈ M) {o : HO} (no : NotSt o) : DiskIn K c (upd H a o) d M t qs F := by
  obtain ⟨ok, dx, ed⟩ := D.ins
  have eg : gh (upd H a o) M = gh H M := gh_put hm
  refine ⟨⟨ok, dx, lk_ne h1.symm ed⟩, lk_ne h2.symm D.tb, ?_, D.nd1, D.nd2, D.md, D.mt, D.mq, D.oc.put no⟩
  rw [eg]
  exact All2.impM (fun q hq f h => h.lks (Same.refl _) (fun u e => lk_ne (h3 q hq).1.symm e) (fun u e => lk_ne (h3 q hq).2.symm e)) D.fl
theorem add_set {T : List TR} {n : Str} {st : St0} (nd : (T.map (·.1)).Nodup) {i : Nat} (hi : i < T.length) (e : (T.getD i dTR).1 = n) : addZ T n st = T.set i (n, (T.getD i dTR).2 ++ [st]) := by
  unfold addZ
  have hm : n ∈ T.map (·.1) := List.mem_map.mpr ⟨_, getD_mem' dTR hi, e⟩
  rw [if_pos hm]
  refine List.ext_getElem (by simp) fun j h1 h2 => ?_
  have hj : j < T.length := by simpa using h1
  rw [List.getElem_map, List.getElem_set]
  have ej : T[j] = T.getD j dTR := by rw [List.getD_eq_getElem?_getD, List.getElem?_eq_getElem hj]; rfl
  by_cases c : i = j
  · subst c
    rw [if_pos rfl, ej, if_pos e, e]
  · rw [if_neg c, ej, if_neg fun z => ?_, List.append_nil]
    have p := List.pairwise_iff_getElem.mp nd
    have gi : (T.map (·.1))[i]'(by simpa using hi) = n := by rw [List.getElem_map]; rw [List.getD_eq_getElem?_getD, List.getElem?_eq_getElem hi] at e; exact e
    have gj : (T.map (·.1))[j]'(by simpa using hj) = n := by rw [List.getElem_map, ej]; exact z
    rcases Nat.lt_or_gt_of_ne c with z | z
    · exact p i j (by simpa using hi) (by simpa using hj) z (by rw [gi, gj])
    · exact p j i (by simpa using hj) (by simpa using hi) z (by rw [gi, gj])
def sp_law_write (K : PySem.W.Frag) (c : CEnv) : Sp := fun vs H Q _ => ∃ (p d t : Addr) (n : Str) (v : V) (M ps : List Addr) (qs : List (Addr × Addr)) (F : List FS) (T : List TR) (st : St0), vs = [.ref p, .str n, v] ∧ TbM H M p ps T ∧ DiskIn K c H d M t qs F ∧ OAt (gh H M) v st ∧ (T.map (·.1)).Nodup ∧ T.length ≤ 1000 ∧ (∀ r ∈ T, r.2.length ≤ 1000) ∧
  ∀ p' ps' H' M', Mv H M H' M' → TbM H' M' p' ps' (addZ T n st) → DiskIn K c H' d M' t qs F → Q (.ref p') H'
theorem w_law_write {K : PySem.W.Frag} {c : CEnv} : Wd (T_law_write K) N_law_write 3 (sp_law_write K c) := fun vs H Q E h => by
  obtain ⟨p, d, t, n, v, M, ps, qs, F, T, st, rfl, tm, D, ov, nd, hT, hr, q⟩ := h
  have hl := tm.len
  have ep := tm.tb
  refine ⟨rfl, ?_⟩
  show T_law_write K _ [some (.ref p), some (.str n), some v, none] H
  unfold T_law_write
  walk_at "zz"
  refine z_forL (SqL.of ep) (fun i σ H' => H' = H ∧ (∀ j, j < i → (T.getD j dTR).1 ≠ n) ∧ ∃ w, σ = [some (.ref p), some (.str n), some v, w]) ⟨rfl, fun j hj => absurd hj (Nat.not_lt_zero _), _, rfl⟩ (fun i σ' H' _ z => z.1 ▸ SqL.of ep) ?_ ?_
  · rintro i x σ H' hx ⟨rfl, no, w, rfl⟩
    obtain ⟨hi, rfl⟩ := map_ref hx
    have hi2 : i < T.length := by omega
    have ra := tm.at hi2
    have am := tm.mem _ (getD_mem' 0 hi)
    have as_ := fun e => add_set (st := st) nd hi2 (n := n) e
    have hri := hr _ (getD_mem' dTR hi2)
    generalize hrr : T.getD i dTR = r at *
    obtain ⟨rn, rl⟩ := r
    obtain ⟨s, ms, ea, gs, os⟩ := ra
    replace os : All2 (OAt (gh H' M)) ms rl := os
    have lms : ms.length = rl.length := All2.len os
    have es := gh_le _ _ gs
    replace hri : rl.length ≤ 1000 := hri
    generalize hpa : ps.getD i 0 = a at *
    replace ea : H' a = some (.lst [.str rn, .non, .ref s]) := ea
    unfold T_law_write_b1
    walk_at "zz"
    by_cases c1 : rn = n
    · rw [decide_eq_true c1]
      walk_at "zx"
      rename_i l1 hl1
      have s1 : Same H' (upd H' l1 (.lst [v])) := Same.new hl1 (Same.refl _)
      have e1 : upd H' l1 (.lst [v]) l1 = some (.lst [v]) := upd_same
      generalize upd H' l1 (.lst [v]) = H1 at *
      refine z_addL (s1 _ _ es) e1 (by simp; omega) fun l2 hl2 => ?_
      have s2 : Same H1 (upd H1 l2 (.lst (ms ++ [v]))) := Same.new hl2 (Same.refl _)
      have os2 : All2 (OAt (gh (upd H1 l2 (.lst (ms ++ [v]))) M)) (ms ++ [v]) (rl ++ [st]) := (All2.imp (fun _ _ h => h.same (gh_same (Same.trans s1 s2))) os).app (ov.same (gh_same (Same.trans s1 s2)))
      have g2 : gh (upd H1 l2 (.lst (ms ++ [v]))) M l2 = some (.lst (ms ++ [v])) := gh_lk ((D.oc.occ.same s1).no hl2) upd_same (OAt.notSt os2)
      have D2 := (D.same s1).same s2
      have tm2 := (tm.same s1).same s2
      have ea2 := s2 _ _ (s1 _ _ ea)
      have s12 := Same.trans s1 s2
      generalize upd H1 l2 (.lst (ms ++ [v])) = H2 at *
      walk_at "zz"
      rw [show ([V.str rn, V.non, V.ref s] : List V).set (Int.toNat 2) (.ref l2) = [V.str rn, V.non, V.ref l2] from rfl]
      have eg : gh (upd H2 a (.lst [.str rn, .non, .ref l2])) M = gh H2 M := gh_put am
      rw [as_ c1] at q
      refine q p ps _ M ((Mv.of s12).trans (Mv.put am)) ⟨lk_df tm2.tb ea2 (fun z => ?_), ?_, tm.nd, tm.mem, tm.np⟩ (D2.row ea2 am NotSt.row)
      · injection z with z
        cases ps with
        | nil => cases z
        | cons _ _ => injection z with z _; cases z
      · rw [eg]
        refine All2.ofD 0 dTR (by rw [List.length_set]; exact hl) fun j hj => ?_
        rw [List.length_set] at hj
        rw [setD hi2]
        by_cases e : i = j
        · subst e
          rw [if_pos rfl, hpa, ← c1]
          exact ⟨l2, ms ++ [v], upd_same, g2, os2⟩
        · rw [if_neg e]
          have rj := tm2.at hj
          have na : ps.getD j 0 ≠ a := by rw [← hpa]; exact nodup_at tm.nd (by omega) hi (Ne.symm e)
          exact rj.same (fun o h => lk_ne na h) (Same.refl _)
    · rw [decide_eq_false c1]
      walk_at "zx"
      refine ⟨rfl, fun j hj => ?_, _, rfl⟩
      by_cases ej : j = i
      · subst ej; rw [hrr]; exact c1
      · exact no j (by omega)
  · rintro σ H' ⟨rfl, no, w, rfl⟩
    have nm : n ∉ T.map (·.1) := fun z => by
      obtain ⟨r, hr, e⟩ := List.mem_map.mp z
      obtain ⟨j, hj, rfl⟩ := List.getElem_of_mem hr
      refine no j (by rw [List.length_map]; omega) ?_
      rw [List.getD_eq_getElem?_getD, List.getElem?_eq_getElem hj]; exact e
    unfold addZ at q
    rw [if_neg nm] at q
    walk_at "zz"
    rename_i l1 hl1 a1 ha1 l2 hl2
    have s1 : Same H' (upd H' l1 (.lst [.non, v])) := Same.new hl1 (Same.refl _)
    have g1 : gh (upd H' l1 (.lst [.non, v])) M l1 = some (.lst [.non, v]) := gh_lk (D.oc.occ.no hl1) upd_same NotSt.two
    have D1 := D.same s1
    have tm1 := tm.same s1
    have ov1 := ov.same (gh_same (M := M) s1)
    generalize upd H' l1 (.lst [.non, v]) = H1 at *
    have nam : a1 ∉ M := D1.oc.occ.no ha1
    have s2 : Same H1 (upd H1 a1 (.lst [.str n, .non, .ref l1])) := Same.new ha1 (Same.refl _)
    have gg2 : Same (gh H1 M) (gh (upd H1 a1 (.lst [.str n, .non, .ref l1])) (a1 :: M)) := gh_of ha1 s2
    have D2 := D1.extN (o := .lst [.str n, .non, .ref l1]) ha1 NotSt.row
    have mv2 : Mv H1 M (upd H1 a1 (.lst [.str n, .non, .ref l1])) (a1 :: M) := Mv.new ha1
    have e2 : upd H1 a1 (.lst [.str n, .non, .ref l1]) a1 = some (.lst [.str n, .non, .ref l1]) := upd_same
    have npa : p ∉ a1 :: M := fun z => by
      rcases List.mem_cons.mp z with z | z
      · have := tm1.tb; rw [z, ha1] at this; cases this
      · exact tm1.np z
    have tm2 : TbM (upd H1 a1 (.lst [.str n, .non, .ref l1])) (a1 :: M) p ps T := tm1.mv (fun a _ o e => s2 _ _ e) (fun o e => s2 _ _ e) gg2 (fun a h => List.mem_cons_of_mem _ h) npa
    replace g1 := gg2 _ _ g1
    replace ov1 := ov1.same gg2
    generalize upd H1 a1 (.lst [.str n, .non, .ref l1]) = H2 at *
    have s3 : Same H2 (upd H2 l2 (.lst [.ref a1])) := Same.new hl2 (Same.refl _)
    have e3 : upd H2 l2 (.lst [.ref a1]) l2 = some (.lst [.ref a1]) := upd_same
    generalize upd H2 l2 (.lst [.ref a1]) = H3 at *
    refine z_addL (s3 _ _ tm2.tb) e3 (by rw [List.length_map]; simp; omega) fun l3 hl3 => ?_
    have s4 : Same H3 (upd H3 l3 (.lst (ps.map V.ref ++ [.ref a1]))) := Same.new hl3 (Same.refl _)
    have s34 := Same.trans s3 s4
    have gg := gh_same (M := a1 :: M) s34
    refine q l3 (ps ++ [a1]) _ (a1 :: M) ((Mv.of s1).trans (mv2.trans (Mv.of s34))) ⟨by rw [upd_same, ref_app], ?_, ?_, fun a ha => ?_, (D2.oc.occ.same s3).no hl3⟩ (D2.same s34)
    · exact (All2.imp (fun _ _ r => r.same (fun _ e => s34 _ _ e) gg) tm2.rows).app ⟨l1, [.non, v], s34 _ _ e2, gg _ _ g1, .cons rfl (.cons (ov1.same gg) .nil)⟩
    · exact List.nodup_append.mpr ⟨tm.nd, by simp, fun a ha b hb => by rw [List.mem_singleton.mp hb]; exact fun z => nam (by rw [← z]; exact tm.mem a ha)⟩
    · rcases List.mem_append.mp ha with ha | ha
      · exact List.mem_cons_of_mem _ (tm.mem a ha)
      · rw [List.mem_singleton.mp ha]; simp

theorem RowM.neRefs {H G : Hp} {a b : Addr} {r : TR} {ps : List Addr} (h : RowM H G a r) (e : H b = some (.lst (ps.map V.ref))) : a ≠ b := fun z => by
  obtain ⟨s, ms, ea, _, _⟩ := h
  rw [z, e] at ea
  injection ea with ea
  injection ea with ea
  cases ps with
  | nil => cases ea
  | cons _ _ => injection ea with ea _; cases ea
theorem cutOf_filter {n : Str} : ∀ {cs : List Cut}, cutOf n cs = ((cs.filter fun x => decide (x.1 = n)).head?).map (·.2)
  | [] => rfl
  | x :: r => by
    show (if x.1 = n then some x.2 else cutOf n r) = _
    by_cases e : x.1 = n
    · rw [if_pos e, List.filter_cons_of_pos (by simpa using e)]; rfl
    · rw [if_neg e, List.filter_cons_of_neg (by simpa using e), cutOf_filter]
def crL (cs : List Cut) (r : TR) : St0 := match cutOf r.1 cs with | none => lastZ r.2 | some x => lleft r.2 x.1 x.2
def crT (cs : List Cut) (r : TR) : TR := (r.1, r.2.getD 0 none :: (if crL cs r = r.2.getD 0 none then [] else [crL cs r]))
theorem crT_tab {cs : List Cut} {F : List FS} : (tab F).map (crT cs) = tab (F.map (crashF cs)) := by
  unfold tab
  rw [List.map_map, List.map_map]
  congr 1
  funext f
  show crT cs (f.1, stl f) = (f.1, stl (crashF cs f))
  have e : crL cs (f.1, stl f) = leftF cs f := by
    unfold crL leftF
    simp only
    cases cutOf f.1 cs with
    | none => exact last_stl
    | some x => exact lleft_stl
  unfold crT
  rw [e]
  rfl
abbrev N_law_crash : List Str := ["_law_table", "_law_cuts", "_law_crashed", "_law_row_here", "_law_left_here", "_law_named", "_law_cut", "_law_states"]
-- _law_crash(_law_table, _law_cuts): slots 0:_law_table 1:_law_cuts 2:_law_crashed 3:_law_row_here 4:_law_left_here 5:_law_named 6:_law_cut 7:_law_states
def T_law_crash_b1 (K : PySem.W.Frag) : TS :=
    (tSeq (tAsg (tOp (uIx K) (tOp (uIx K) (tVar 3) (tC (.int 2))) (tOp uSub (tCB (uLen K) (tCons (tOp (uIx K) (tVar 3) (tC (.int 2))) tNil)) (tC (.int 1)))) (gName 4))
    (tSeq (tAsg (tLc (iSq K (tVar 1)) (gName 6) (tTest (tOp (uEq K) (tOp (uIx K) (tVar 6) (tC (.int 0))) (tOp (uIx K) (tVar 3) (tC (.int 0))))) (tVar 6) [6]) (gName 5))
    (tCut (tIfS (tTest (tOp uGt (tCB (uLen K) (tCons (tVar 5) tNil)) (tC (.int 0)))) (tAsg (tCal (sp_law_left K) (tCons (tOp (uIx K) (tVar 3) (tC (.int 2))) (tCons (tOp (uIx K) (tOp (uIx K) (tVar 5) (tC (.int 0))) (tC (.int 1))) (tCons (tOp (uIx K) (tOp (uIx K) (tVar 5) (tC (.int 0))) (tC (.int 2))) tNil)))) (gName 4)) tNext)
    (tSeq (tAsg (tLst (tCons (tOp (uIx K) (tOp (uIx K) (tVar 3) (tC (.int 2))) (tC (.int 0))) tNil)) (gName 7))
    (tCut (tIfS (tTest (tOp (uNe K) (tVar 4) (tOp (uIx K) (tOp (uIx K) (tVar 3) (tC (.int 2))) (tC (.int 0))))) (tDrop (tBM K "list" rAppend (tVar 7) (tCons (tVar 4) tNil))) tNext)
    (tDrop (tBM K "list" rAppend (tVar 2) (tCons (tLst (tCons (tOp (uIx K) (tVar 3) (tC (.int 0))) (tCons (tC .non) (tCons (tVar 7) tNil)))) tNil))))))))
def T_law_crash (K : PySem.W.Frag) : TS :=
    (tSeq (tAsg (tLst tNil) (gName 2))
    (tSeq (tFor (iSq K (tVar 0)) (gName 3) (T_law_crash_b1 K))
    (tRet (tVar 2))))

def sp_law_crash (K : PySem.W.Frag) (c : CEnv) : Sp := fun vs H Q _ => ∃ (p cu d t : Addr) (M ps : List Addr) (qs : List (Addr × Addr)) (F : List FS) (T : List TR) (cs : List Cut), vs = [.ref p, .ref cu] ∧ TbM H M p ps T ∧ DiskIn K c H d M t qs F ∧ Dp K (gh H M) (.ref cu) (.list (cs.map cutD)) ∧ cs.length ≤ 1000 ∧ (∀ x ∈ cs, 0 ≤ x.2.2) ∧ T.length ≤ 1000 ∧ (∀ r ∈ T, r.2 ≠ [] ∧ r.2.length ≤ 1000) ∧
  ∀ p' ps' H' M', Mv H M H' M' → TbM H' M' p' ps' (T.map (crT cs)) → DiskIn K c H' d M' t qs F → Q (.ref p') H'
theorem w_law_crash {K : PySem.W.Frag} {c : CEnv} : Wd (T_law_crash K) N_law_crash 2 (sp_law_crash K c) := fun vs H Q E h => by
  obtain ⟨p, cu, d, t, M, ps, qs, F, T, cs, rfl, tm, D, dcu, lcs, pcs, hT, hr, q⟩ := h
  have hl := tm.len
  refine ⟨rfl, ?_⟩
  show T_law_crash K _ [some (.ref p), some (.ref cu), none, none, none, none, none, none] H
  unfold T_law_crash
  walk_at "zz"
  rename_i cr hcr
  have ncr := D.oc.occ.no hcr
  have h1 : cr ≠ d := fun z => ncr (by rw [z]; exact D.md)
  have h2 : cr ≠ t := fun z => ncr (by rw [z]; exact D.mt)
  have h3 : ∀ q ∈ qs, cr ≠ q.1 ∧ cr ≠ q.2 := fun q hq => ⟨fun z => ncr (by rw [z]; exact (D.mq q hq).1), fun z => ncr (by rw [z]; exact (D.mq q hq).2)⟩
  have h4 : cr ≠ p := fun z => by rw [z, tm.tb] at hcr; cases hcr
  have h5 : ∀ a ∈ ps, cr ≠ a := fun a ha z => ncr (by rw [z]; exact tm.mem a ha)
  have s0 : Same H (upd H cr (.lst [])) := Same.new hcr (Same.refl _)
  have D0 := D.extN (o := .lst []) hcr (NotSt.refs (ps := []))
  have tm0 : TbM (upd H cr (.lst [])) (cr :: M) p ps T := tm.mv (fun a _ o e => s0 _ _ e) (fun o e => s0 _ _ e) (gh_of hcr s0) (fun a h => List.mem_cons_of_mem _ h) (fun z => by
    rcases List.mem_cons.mp z with z | z
    · exact h4 z.symm
    · exact tm.np z)
  have mv0 : Mv H M (upd H cr (.lst [])) (cr :: M) := Mv.new hcr
  have ecr : upd H cr (.lst []) cr = some (.lst (([] : List Addr).map V.ref)) := upd_same
  generalize upd H cr (.lst []) = H0 at *
  refine z_forL (SqL.of tm0.tb) (fun i σ H' => ∃ (Mi psi : List Addr) (v3 v4 v5 v6 v7 : Option V), σ = [some (.ref p), some (.ref cu), some (.ref cr), v3, v4, v5, v6, v7] ∧ Mv H M H' Mi ∧ cr ∈ Mi ∧ H' cr = some (.lst (psi.map V.ref)) ∧ All2 (RowM H' (gh H' Mi)) psi ((T.take i).map (crT cs)) ∧ psi.Nodup ∧ (∀ a ∈ psi, a ∈ Mi) ∧ TbM H' Mi p ps T ∧ DiskIn K c H' d Mi t qs F)
    ⟨cr :: M, [], _, _, _, _, _, rfl, mv0, by simp, ecr, .nil, List.nodup_nil, fun _ h => (nomatch h), tm0, D0⟩ (fun i σ' H' _ z => by
      obtain ⟨Mi, psi, v3, v4, v5, v6, v7, _, _, _, _, _, _, _, tmi, _⟩ := z
      exact SqL.of tmi.tb) ?_ ?_
  · rintro i x σ H1 hx ⟨Mi, psi, v3, v4, v5, v6, v7, rfl, mvi, mcr, ecr1, rmi, ndi, memi, tmi, Di⟩
    obtain ⟨hi, rfl⟩ := map_ref hx
    have hi2 : i < T.length := by omega
    have ra := tmi.at hi2
    obtain ⟨nei, hri⟩ := hr _ (getD_mem' dTR hi2)
    have tk := take_dS dTR hi2
    have crd : crT cs (T.getD i dTR) = ((T.getD i dTR).1, (T.getD i dTR).2.getD 0 none :: (if crL cs (T.getD i dTR) = (T.getD i dTR).2.getD 0 none then [] else [crL cs (T.getD i dTR)])) := rfl
    have lpi := All2.len rmi
    rw [List.length_map, List.length_take] at lpi
    generalize T.getD i dTR = r at *
    obtain ⟨rn, rl⟩ := r
    obtain ⟨s, ms, ea, gs, os⟩ := ra
    replace os : All2 (OAt (gh H1 Mi)) ms rl := os
    replace hri : rl.length ≤ 1000 := hri
    have lms : ms.length = rl.length := All2.len os
    have l0 : 0 < rl.length := List.length_pos_iff.mpr nei
    have lo := last_o os l0
    have es := gh_le _ _ gs
    generalize ps.getD i 0 = a at *
    replace ea : H1 a = some (.lst [.str rn, .non, .ref s]) := ea
    have dcu1 := dpS mvi.gh dcu
    obtain ⟨cu', xs, e0, ec, rc⟩ := dpL dcu1
    cases e0
    have lxs := dpsLen rc
    rw [List.length_map] at lxs
    have ec1 := Same.seq gh_le ec
    unfold T_law_crash_b1
    walk_at "zz"
    try refine z_ix (.inl (SqL.of es)) (last_ix (by omega)) ?_
    walk_at "zz"
    refine z_lcl ec1 (fun C j H' => Same H1 H' ∧ ∃ acc : List V, H' C = some (.lst acc) ∧ DpAll K (gh H1 Mi) acc (((cs.take j).filter fun x => decide (x.1 = rn)).map cutD)) (fun C hC => ⟨Same.new hC (Same.refl _), [], upd_same, .nil⟩) (fun C j H' _ _ z => Same.seq z.1 ec1) ?_ ?_
    · rintro C j x H2 hC hx ⟨s2, acc, eC, rm⟩
      have hj : j < xs.length := (List.getElem?_eq_some_iff.mp hx).1
      have hj2 : j < cs.length := by omega
      obtain ⟨x', ex, dx⟩ := dpsGet rc PyData.none (i := j) (by rw [List.length_map]; exact hj2)
      rw [hx] at ex
      obtain rfl := Option.some.inj ex
      rw [getD_map (("", 0, 0) : Cut) hj2] at dx
      have tkc := take_dS (("", 0, 0) : Cut) hj2
      generalize cs.getD j (("", 0, 0) : Cut) = y at *
      have dx0 := dx
      obtain ⟨ta, us, rfl, et, r3⟩ := dpT dx
      obtain ⟨y1, w1, rfl, dy1, r3⟩ := dpsC r3
      obtain rfl := dpX dy1
      have et2 := Same.sqT (Same.trans gh_le s2) et
      have ea2 := s2 _ _ ea
      have lac := dpsLen rm
      rw [List.length_map] at lac
      have lfi : ((cs.take j).filter fun x => decide (x.1 = rn)).length ≤ 1000 := Nat.le_trans (List.length_filter_le _ _) (by rw [List.length_take]; omega)
      refine z_gName ⟨rfl, ?_⟩
      walk_at "zz"
      try refine z_ix (.inr et2) at_zero ?_
      walk_at "zz"
      rw [tkc, List.filter_append]
      by_cases c1 : y.1 = rn
      · rw [decide_eq_true c1, List.filter_cons_of_pos (by simpa using c1), List.filter_nil, List.map_append]
        walk_at "zx"
        refine z_accum eC (by omega) ⟨Same.put hC s2, acc ++ [.ref ta], upd_same, dpsApp rm dx0⟩
      · rw [decide_eq_false c1, List.filter_cons_of_neg (by simpa using c1), List.filter_nil, List.append_nil]
        walk_at "zx"
        exact ⟨s2, acc, eC, rm⟩
    rintro nmd H2 hnmd ⟨s2, acc, enm, rm⟩
    rw [lxs, List.take_length] at rm
    have lac := dpsLen rm
    rw [List.length_map] at lac
    have ea2 := s2 _ _ ea
    have es2 := s2 _ _ es
    have cf := cutOf_filter (n := rn) (cs := cs)
    have gg2 := gh_same (M := Mi) s2
    walk_at "zz"
    refine z_cut (fun σ' H3 => ∃ v : V, Same H1 H3 ∧ OAt (gh H3 Mi) v (crL cs (rn, rl)) ∧ ∃ w6 w7 : Option V, σ' = [some (.ref p), some (.ref cu), some (.ref cr), some (.ref a), some v, some (.ref nmd), w6, w7]) ?_ ?_
    · walk_at "zz"
      generalize hfl : (cs.filter fun x => decide (x.1 = rn)) = fl at *
      cases fl with
      | nil =>
        have : acc = [] := List.length_eq_zero_iff.mp lac
        subst this
        rw [decide_eq_false (show ¬ (0 : Int) < (([] : List V).length : Int) by simp)]
        walk_at "zx"
        refine ⟨_, s2, ?_, _, _, rfl⟩
        have e : crL cs (rn, rl) = lastZ rl := by unfold crL; simp only; rw [cf]; rfl
        rw [e]; exact lo.same gg2
      | cons y fl =>
        obtain ⟨v0, ws, rfl, dv0, _⟩ := dpsC rm
        rw [decide_eq_true (show (0 : Int) < ((v0 :: ws).length : Int) by simp)]
        walk_at "zx"
        have ymem : y ∈ cs := (List.mem_filter.mp (by rw [hfl]; exact List.mem_cons_self ..)).1
        have e : crL cs (rn, rl) = lleft rl y.2.1 y.2.2 := by unfold crL; simp only; rw [cf]; rfl
        obtain ⟨ta, us, rfl, et, r3⟩ := dpT dv0
        obtain ⟨y1, w1, rfl, dy1, r3⟩ := dpsC r3
        obtain ⟨y2, w2, rfl, dy2, r3⟩ := dpsC r3
        obtain ⟨y3, w3, rfl, dy3, r3⟩ := dpsC r3
        obtain rfl := dps0 r3
        obtain rfl := dpX dy1
        obtain rfl := dpI dy2
        obtain rfl := dpI dy3
        have et2 := Same.sqT (Same.trans gh_le s2) et
        try refine z_ix (.inl (SqL.of enm)) at_zero ?_
        walk_at "zz"
        try refine z_ix (.inr et2) (v := .int y.2.1) rfl ?_
        walk_at "zz"
        try refine z_ix (.inl (SqL.of enm)) at_zero ?_
        walk_at "zz"
        try refine z_ix (.inr et2) (v := .int y.2.2) rfl ?_
        walk_at "zz"
        refine ⟨s, y.2.1, y.2.2, Mi, ms, rl, rfl, gg2 _ _ gs, All2.imp (fun _ _ h => h.same gg2) os, Di.oc.occ.same s2, pcs y ymem, l0, hri, fun v H3 s3 ov => ?_⟩
        walk_at "zz"
        exact ⟨v, Same.trans s2 s3, by rw [e]; exact ov, _, _, rfl⟩
    · rintro σ' H3 ⟨v, s3, ov, w6, w7, rfl⟩
      have ea3 := s3 _ _ ea
      have es3 := s3 _ _ es
      have gg3 := gh_same (M := Mi) s3
      have a0 : atI ms 0 = some (ms.getD 0 .non) := by
        unfold atI; rw [ix_at (by omega) (by omega)]
        show ms[(0 : Int).toNat]? = _
        rw [List.getD_eq_getElem?_getD, show (0 : Int).toNat = 0 from rfl, List.getElem?_eq_getElem (by omega)]; rfl
      have o0 : OAt (gh H3 Mi) (ms.getD 0 .non) (rl.getD 0 none) := (All2.atD os V.non none l0).same gg3
      generalize crL cs (rn, rl) = lf at *
      generalize hu0 : ms.getD 0 .non = u0 at *
      generalize rl.getD 0 none = r0 at *
      walk_at "zz"
      try refine z_ix (.inl (SqL.of es3)) a0 ?_
      walk_at "zz"
      rename_i st1 hst1
      have hst0 : H1 st1 = none := fresh_back s3 hst1
      have nst := Di.oc.occ.no hst0
      have s4 : Same H3 (upd H3 st1 (.lst [u0])) := Same.new hst1 (Same.refl _)
      have e4 : upd H3 st1 (.lst [u0]) st1 = some (.lst [u0]) := upd_same
      have s14 := Same.trans s3 s4
      have o03 := o0
      have ov3 := ov
      replace o0 := o0.same (gh_same (M := Mi) s4)
      replace ov := ov.same (gh_same (M := Mi) s4)
      generalize upd H3 st1 (.lst [u0]) = H4 at *
      have ea4 := s14 _ _ ea
      have es4 := s14 _ _ es
      refine z_cut (fun σ' H5 => Same H1 H5 ∧ (∃ vals : List V, H5 st1 = some (.lst vals) ∧ All2 (OAt (gh H5 Mi)) vals (r0 :: (if lf = r0 then [] else [lf]))) ∧ ∃ w6 : Option V, σ' = [some (.ref p), some (.ref cu), some (.ref cr), some (.ref a), some v, some (.ref nmd), w6, some (.ref st1)]) ?_ ?_
      · walk_at "zz"
        try refine z_ix (.inl (SqL.of es4)) a0 ?_
        refine z_neO (ov.same gh_le) (o0.same gh_le) ?_
        walk_at "zz"
        by_cases c1 : lf = r0
        · rw [decide_eq_true c1]
          walk_at "zx"
          exact ⟨s14, ⟨[u0], e4, by rw [if_pos c1]; exact .cons o0 .nil⟩, _, rfl⟩
        · rw [decide_eq_false c1]
          walk_at "zx"
          refine z_app e4 (by simp) ?_
          have s45 : Same H1 (upd H4 st1 (.lst ([u0] ++ [v]))) := Same.put hst0 s14
          have gk : Same (gh H3 Mi) (gh (upd H4 st1 (.lst ([u0] ++ [v]))) Mi) := gh_same (Same.put hst1 s4)
          exact ⟨s45, ⟨[u0] ++ [v], upd_same, by rw [if_neg c1]; exact .cons (o03.same gk) (.cons (ov3.same gk) .nil)⟩, _, rfl⟩
      · rintro σ' H5 ⟨s5, ⟨vals, e5, o5⟩, w6, rfl⟩
        have ea5 := s5 _ _ ea
        walk_at "zz"
        rename_i a1 ha1
        have na1 := (Di.oc.occ.same s5).no ha1
        have nst1 : st1 ∉ a1 :: Mi := fun z => by
          rcases List.mem_cons.mp z with z | z
          · rw [z, ha1] at e5; cases e5
          · exact nst z
        have D6 := (Di.same s5).extN (o := .lst [.str rn, .non, .ref st1]) ha1 NotSt.row
        have s6 : Same H5 (upd H5 a1 (.lst [.str rn, .non, .ref st1])) := Same.new ha1 (Same.refl _)
        have gg6 : Same (gh H5 Mi) (gh (upd H5 a1 (.lst [.str rn, .non, .ref st1])) (a1 :: Mi)) := gh_of ha1 s6
        have tm6 : TbM (upd H5 a1 (.lst [.str rn, .non, .ref st1])) (a1 :: Mi) p ps T := (tmi.same s5).mv (fun a _ o e => s6 _ _ e) (fun o e => s6 _ _ e) gg6 (fun a h => List.mem_cons_of_mem _ h) (fun z => by
          rcases List.mem_cons.mp z with z | z
          · have := (tmi.same s5).tb; rw [z, ha1] at this; cases this
          · exact tmi.np z)
        have e6 : upd H5 a1 (.lst [.str rn, .non, .ref st1]) a1 = some (.lst [.str rn, .non, .ref st1]) := upd_same
        have g6 : gh (upd H5 a1 (.lst [.str rn, .non, .ref st1])) (a1 :: Mi) st1 = some (.lst vals) := gh_lk nst1 (s6 _ _ e5) (OAt.notSt o5)
        have mv6 : Mv H5 Mi (upd H5 a1 (.lst [.str rn, .non, .ref st1])) (a1 :: Mi) := Mv.new ha1
        have ncr1 : a1 ≠ cr := fun z => na1 (by rw [z]; exact mcr)
        have rm6 := All2.imp (fun _ _ h => RowM.same h (fun o e => s6 _ _ (s5 _ _ e)) (Same.trans (gh_same s5) gg6)) rmi
        replace o5 := All2.imp (fun _ _ h => OAt.same gg6 h) o5
        have ecr6 := s6 _ _ (s5 _ _ ecr1)
        generalize upd H5 a1 (.lst [.str rn, .non, .ref st1]) = H6 at *
        refine z_app ecr6 (by rw [List.length_map]; omega) ?_
        have eg : gh (upd H6 cr (.lst (psi.map V.ref ++ [.ref a1]))) (a1 :: Mi) = gh H6 (a1 :: Mi) := gh_put (by simp [mcr])
        refine ⟨a1 :: Mi, psi ++ [a1], _, _, _, _, _, rfl, mvi.trans ((Mv.of s5).trans (mv6.trans (Mv.put (by simp [mcr])))), by simp [mcr], by rw [upd_same, ref_app], ?_, ?_, ?_, ?_, D6.putN h1 h2 h3 (by simp [mcr]) (by rw [ref_app]; exact NotSt.refs)⟩
        · rw [eg, tk, List.map_append]
          refine (All2.imp (fun _ _ h => RowM.same h (fun o e => lk_ne (h.neRefs ecr6) e) (Same.refl _)) rm6).app ?_
          show RowM _ _ a1 (crT cs (rn, rl))
          rw [crd]
          exact ⟨st1, vals, lk_ne ncr1 e6, g6, o5⟩
        · exact List.nodup_append.mpr ⟨ndi, by simp, fun a ha b hb => by rw [List.mem_singleton.mp hb]; exact fun z => na1 (by rw [← z]; exact memi a ha)⟩
        · intro x hx
          rcases List.mem_append.mp hx with hx | hx
          · exact List.mem_cons_of_mem _ (memi x hx)
          · rw [List.mem_singleton.mp hx]; simp
        · exact tm6.mv (fun x hx o e => lk_ne (h5 x hx).symm e) (fun o e => lk_ne h4.symm e) (by rw [eg]; exact Same.refl _) (fun _ h => h) tm6.np
  · rintro σ H1 ⟨Mi, psi, v3, v4, v5, v6, v7, rfl, mvi, mcr, ecr1, rmi, ndi, memi, tmi, Di⟩
    rw [List.length_map, hl, List.take_length] at rmi
    walk_at "zz"
    have sub : ∀ a ∈ Mi.filter (fun a => decide (a ≠ cr)), a ∈ Mi := fun a ha => (List.mem_filter.mp ha).1
    have keep : ∀ a, a ∈ Mi → a ≠ cr → a ∈ Mi.filter (fun a => decide (a ≠ cr)) := fun a ha hn => List.mem_filter.mpr ⟨ha, by simpa using hn⟩
    refine q cr psi H1 (Mi.filter fun a => decide (a ≠ cr)) ⟨fun a ha => keep a (mvi.sub a ha) (fun z => ncr (by rw [← z]; exact ha)), Same.trans mvi.same (hid_sub sub)⟩
      ⟨ecr1, All2.imp (fun _ _ h => RowM.same h (fun _ e => e) (gh_hid (hid_sub sub))) rmi, ndi, fun a ha => keep a (memi a ha) (fun z => ?_), fun z => by have := (List.mem_filter.mp z).2; simp at this⟩ (Di.less sub (keep _ Di.md h1.symm) (keep _ Di.mt h2.symm) (fun q hq => ⟨keep _ (Di.mq q hq).1 (h3 q hq).1.symm, keep _ (Di.mq q hq).2 (h3 q hq).2.symm⟩))
    obtain ⟨b, _, hb⟩ := All2.mem rmi ha
    exact hb.neRefs ecr1 z

abbrev N_law_step : List Str := ["_law_state", "_law_disk", "_law_table", "_law_kind", "_law_name", "_law_numbers_here", "_law_seen", "_law_names", "_law_row_here", "_law_told", "_law_good", "_law_rows", "_law_word", "_law_given", "_law_worth"]
-- _law_step(_law_state, _law_disk, _law_table): slots 0:_law_state 1:_law_disk 2:_law_table 3:_law_kind 4:_law_name 5:_law_numbers_here 6:_law_seen 7:_law_names 8:_law_row_here 9:_law_told 10:_law_good 11:_law_rows 12:_law_word 13:_law_given 14:_law_worth
def T_law_step (K : PySem.W.Frag) (c : CEnv) : TS :=
    (tSeq (tAsg (tCal (sp_law_next K) (tCons (tVar 0) (tCons (tC (.int 9)) tNil))) (gName 3))
    (tSeq (tAsg (tOp (uIx K) (tLst (tCons (tC (.str "a")) (tCons (tC (.str "b")) (tCons (tC (.str "c")) tNil)))) (tCal (sp_law_next K) (tCons (tVar 0) (tCons (tC (.int 3)) tNil)))) (gName 4))
    (tSeq (tAsg (tCal (sp_law_numbers K) (tCons (tVar 0) tNil)) (gName 5))
    (tSeq (tAsg (tCal (sp_law_contents K) (tCons (tVar 2) (tCons (tVar 4) tNil))) (gName 6))
    (tSeq (tIfS (tTest (tOp (uEq K) (tVar 3) (tC (.int 0)))) (tRet (tTup (tCons (tVar 2) (tCons (tOp (uEq K) (tCal (sp_law_asked K c) (tCons (tVar 1) (tCons (tTup (tCons (tC (.str "sync")) tNil)) tNil))) (tTup (tCons (tC (.str "done")) tNil))) (tCons (tC (.int 1)) tNil))))) tNext)
    (tSeq (tIfS (tTest (tOp (uEq K) (tVar 3) (tC (.int 1)))) (tSeq (tAsg (tLc (iSq K (tVar 2)) (gName 8) (tTest (tOp uIsNot (tOp (uIx K) (tOp (uIx K) (tVar 8) (tC (.int 2))) (tOp uSub (tCB (uLen K) (tCons (tOp (uIx K) (tVar 8) (tC (.int 2))) tNil)) (tC (.int 1)))) (tC .non))) (tOp (uIx K) (tVar 8) (tC (.int 0))) [8]) (gName 7))
    (tRet (tTup (tCons (tVar 2) (tCons (tOp (uEq K) (tCal (sp_law_asked K c) (tCons (tVar 1) (tCons (tTup (tCons (tC (.str "names")) tNil)) tNil))) (tTup (tCons (tC (.str "names")) (tCons (tVar 7) tNil)))) (tCons (tC (.int 0)) tNil)))))) tNext)
    (tSeq (tIfS (tTest (tOp (uEq K) (tVar 3) (tC (.int 2)))) (tRet (tTup (tCons (tVar 2) (tCons (tOp uIs (tCal (sp_law_asked K c) (tCons (tVar 1) (tCons (tTup (tCons (tOp (uIx K) (tLst (tCons (tC (.str "look")) (tCons (tC (.str "")) (tCons (tC (.str "Sync")) tNil)))) (tCal (sp_law_next K) (tCons (tVar 0) (tCons (tC (.int 3)) tNil)))) (tCons (tVar 4) tNil))) tNil))) (tC .non)) (tCons (tC (.int 0)) tNil))))) tNext)
    (tSeq (tIfS (tTest (tOp (uEq K) (tVar 3) (tC (.int 3)))) (tSeq (tAsg (tCal (sp_law_asked K c) (tCons (tVar 1) (tCons (tTup (tCons (tC (.str "read")) (tCons (tVar 4) tNil))) tNil))) (gName 9))
    (tSeq (tIfS (tTest (tOp uIs (tVar 6) (tC .non))) (tRet (tTup (tCons (tVar 2) (tCons (tOp (uEq K) (tVar 9) (tTup (tCons (tC (.str "refused")) tNil))) (tCons (tC (.int 0)) tNil))))) tNext)
    (tSeq (tAsg (tOp (uEq K) (tVar 9) (tTup (tCons (tC (.str "numbers")) (tCons (tVar 6) tNil)))) (gName 10))
    (tCut (tIfS (tTru K (tVar 10)) (tSeq (tAsg (tOp (uIx K) (tVar 9) (tC (.int 1))) (gName 11))
    (tDrop (tBM K "list" rAppend (tVar 11) (tCons (tC (.int 5)) tNil)))) tNext)
    (tRet (tTup (tCons (tVar 2) (tCons (tVar 10) (tCons (tC (.int 0)) tNil))))))))) tNext)
    (tSeq (tAsg (tOp (uIx K) (tLst (tCons (tC (.str "append")) (tCons (tC (.str "append")) (tCons (tC (.str "make")) (tCons (tC (.str "make")) (tCons (tC (.str "remove")) tNil)))))) (tOp uSub (tVar 3) (tC (.int 4)))) (gName 12))
    (tSeq (tAsg (tCB (uList K) (tCons (tVar 5) tNil)) (gName 13))
    (tSeq (tAsg (tCal (sp_law_asked K c) (tCons (tVar 1) (tCons (tTup (tCons (tVar 12) (tCons (tVar 4) (tCons (tVar 13) tNil)))) tNil))) (gName 9))
    (tSeq (tIfS (tTest (tOp (uNe K) (tVar 13) (tVar 5))) (tRet (tTup (tCons (tVar 2) (tCons (tC (.bl false)) (tCons (tC (.int 0)) tNil))))) tNext)
    (tSeq (tIfS (tTest (tOp (uNe K) (tOp uIs (tVar 6) (tC .non)) (tOp (uEq K) (tVar 12) (tC (.str "make"))))) (tRet (tTup (tCons (tVar 2) (tCons (tOp (uEq K) (tVar 9) (tTup (tCons (tC (.str "refused")) tNil))) (tCons (tC (.int 0)) tNil))))) tNext)
    (tSeq (tAsg (tC .non) (gName 14))
    (tCut (tIfS (tTest (tOp (uNe K) (tVar 12) (tC (.str "remove")))) (tSeq (tAsg (tVar 5) (gName 14))
    (tIfS (tTest (tOp (uEq K) (tVar 12) (tC (.str "append")))) (tAsg (tOp (uAdd K) (tVar 6) (tVar 5)) (gName 14)) tNext)) tNext)
    (tRet (tTup (tCons (tCal (sp_law_write K c) (tCons (tVar 2) (tCons (tVar 4) (tCons (tVar 14) tNil)))) (tCons (tOp (uEq K) (tVar 9) (tTup (tCons (tC (.str "done")) tNil))) (tCons (tC (.int 0)) tNil))))))))))))))))))))
def T_stp0 (K : PySem.W.Frag) (c : CEnv) : TS :=
    (tRet (tTup (tCons (tVar 2) (tCons (tOp (uEq K) (tCal (sp_law_asked K c) (tCons (tVar 1) (tCons (tTup (tCons (tC (.str "sync")) tNil)) tNil))) (tTup (tCons (tC (.str "done")) tNil))) (tCons (tC (.int 1)) tNil)))))
def T_stp1 (K : PySem.W.Frag) (c : CEnv) : TS :=
    (tSeq (tAsg (tLc (iSq K (tVar 2)) (gName 8) (tTest (tOp uIsNot (tOp (uIx K) (tOp (uIx K) (tVar 8) (tC (.int 2))) (tOp uSub (tCB (uLen K) (tCons (tOp (uIx K) (tVar 8) (tC (.int 2))) tNil)) (tC (.int 1)))) (tC .non))) (tOp (uIx K) (tVar 8) (tC (.int 0))) [8]) (gName 7))
    (tRet (tTup (tCons (tVar 2) (tCons (tOp (uEq K) (tCal (sp_law_asked K c) (tCons (tVar 1) (tCons (tTup (tCons (tC (.str "names")) tNil)) tNil))) (tTup (tCons (tC (.str "names")) (tCons (tVar 7) tNil)))) (tCons (tC (.int 0)) tNil))))))
def T_stp2 (K : PySem.W.Frag) (c : CEnv) : TS :=
    (tRet (tTup (tCons (tVar 2) (tCons (tOp uIs (tCal (sp_law_asked K c) (tCons (tVar 1) (tCons (tTup (tCons (tOp (uIx K) (tLst (tCons (tC (.str "look")) (tCons (tC (.str "")) (tCons (tC (.str "Sync")) tNil)))) (tCal (sp_law_next K) (tCons (tVar 0) (tCons (tC (.int 3)) tNil)))) (tCons (tVar 4) tNil))) tNil))) (tC .non)) (tCons (tC (.int 0)) tNil)))))
def T_stp3 (K : PySem.W.Frag) (c : CEnv) : TS :=
    (tSeq (tAsg (tCal (sp_law_asked K c) (tCons (tVar 1) (tCons (tTup (tCons (tC (.str "read")) (tCons (tVar 4) tNil))) tNil))) (gName 9))
    (tSeq (tIfS (tTest (tOp uIs (tVar 6) (tC .non))) (tRet (tTup (tCons (tVar 2) (tCons (tOp (uEq K) (tVar 9) (tTup (tCons (tC (.str "refused")) tNil))) (tCons (tC (.int 0)) tNil))))) tNext)
    (tSeq (tAsg (tOp (uEq K) (tVar 9) (tTup (tCons (tC (.str "numbers")) (tCons (tVar 6) tNil)))) (gName 10))
    (tCut (tIfS (tTru K (tVar 10)) (tSeq (tAsg (tOp (uIx K) (tVar 9) (tC (.int 1))) (gName 11))
    (tDrop (tBM K "list" rAppend (tVar 11) (tCons (tC (.int 5)) tNil)))) tNext)
    (tRet (tTup (tCons (tVar 2) (tCons (tVar 10) (tCons (tC (.int 0)) tNil)))))))))
def T_stp4 (K : PySem.W.Frag) (c : CEnv) : TS :=
    (tSeq (tAsg (tOp (uIx K) (tLst (tCons (tC (.str "append")) (tCons (tC (.str "append")) (tCons (tC (.str "make")) (tCons (tC (.str "make")) (tCons (tC (.str "remove")) tNil)))))) (tOp uSub (tVar 3) (tC (.int 4)))) (gName 12))
    (tSeq (tAsg (tCB (uList K) (tCons (tVar 5) tNil)) (gName 13))
    (tSeq (tAsg (tCal (sp_law_asked K c) (tCons (tVar 1) (tCons (tTup (tCons (tVar 12) (tCons (tVar 4) (tCons (tVar 13) tNil)))) tNil))) (gName 9))
    (tSeq (tIfS (tTest (tOp (uNe K) (tVar 13) (tVar 5))) (tRet (tTup (tCons (tVar 2) (tCons (tC (.bl false)) (tCons (tC (.int 0)) tNil))))) tNext)
    (tSeq (tIfS (tTest (tOp (uNe K) (tOp uIs (tVar 6) (tC .non)) (tOp (uEq K) (tVar 12) (tC (.str "make"))))) (tRet (tTup (tCons (tVar 2) (tCons (tOp (uEq K) (tVar 9) (tTup (tCons (tC (.str "refused")) tNil))) (tCons (tC (.int 0)) tNil))))) tNext)
    (tSeq (tAsg (tC .non) (gName 14))
    (tCut (tIfS (tTest (tOp (uNe K) (tVar 12) (tC (.str "remove")))) (tSeq (tAsg (tVar 5) (gName 14))
    (tIfS (tTest (tOp (uEq K) (tVar 12) (tC (.str "append")))) (tAsg (tOp (uAdd K) (tVar 6) (tVar 5)) (gName 14)) tNext)) tNext)
    (tRet (tTup (tCons (tCal (sp_law_write K c) (tCons (tVar 2) (tCons (tVar 4) (tCons (tVar 14) tNil)))) (tCons (tOp (uEq K) (tVar 9) (tTup (tCons (tC (.str "done")) tNil))) (tCons (tC (.int 0)) tNil))))))))))))
def T_law_stepS (K : PySem.W.Frag) (c : CEnv) : TS :=
    (tSeq (tAsg (tCal (sp_law_next K) (tCons (tVar 0) (tCons (tC (.int 9)) tNil))) (gName 3))
    (tSeq (tAsg (tOp (uIx K) (tLst (tCons (tC (.str "a")) (tCons (tC (.str "b")) (tCons (tC (.str "c")) tNil)))) (tCal (sp_law_next K) (tCons (tVar 0) (tCons (tC (.int 3)) tNil)))) (gName 4))
    (tSeq (tAsg (tCal (sp_law_numbers K) (tCons (tVar 0) tNil)) (gName 5))
    (tSeq (tAsg (tCal (sp_law_contents K) (tCons (tVar 2) (tCons (tVar 4) tNil))) (gName 6))
    (tSeq (tIfS (tTest (tOp (uEq K) (tVar 3) (tC (.int 0)))) (T_stp0 K c) tNext)
    (tSeq (tIfS (tTest (tOp (uEq K) (tVar 3) (tC (.int 1)))) (T_stp1 K c) tNext)
    (tSeq (tIfS (tTest (tOp (uEq K) (tVar 3) (tC (.int 2)))) (T_stp2 K c) tNext)
    (tSeq (tIfS (tTest (tOp (uEq K) (tVar 3) (tC (.int 3)))) (T_stp3 K c) tNext)
    (T_stp4 K c)))))))))

theorem step_eq {K : PySem.W.Frag} {c : CEnv} : T_law_step K c = T_law_stepS K c := rfl
def abcS (x : Str) : Prop := x = "a" ∨ x = "b" ∨ x = "c"
def AbcF (F : List FS) : Prop := ∀ f ∈ F, abcS f.1
theorem abc_at' {n : Int} (h0 : 0 ≤ n) (h1 : n < 3) : ∃ x : Str, abcS x ∧ atI [V.str "a", V.str "b", V.str "c"] n = some (.str x) := by
  have : n = 0 ∨ n = 1 ∨ n = 2 := by omega
  rcases this with rfl | rfl | rfl
  · exact ⟨"a", .inl rfl, rfl⟩
  · exact ⟨"b", .inr (.inl rfl), rfl⟩
  · exact ⟨"c", .inr (.inr rfl), rfl⟩
theorem abcS.lay {n : Nat} {x : Str} (h : abcS x) : lay1 n (.str x) := by rcases h with rfl | rfl | rfl <;> exact ⟨by decide +kernel, Nat.zero_le _⟩
theorem AbcF.sync {F : List FS} (h : AbcF F) : AbcF (F.map syncF) := fun f hf => by
  obtain ⟨g, hg, rfl⟩ := List.mem_map.mp hf
  exact h g hg
theorem AbcF.crash {F : List FS} {cs : List Cut} (h : AbcF F) : AbcF (F.map (crashF cs)) := fun f hf => by
  obtain ⟨g, hg, rfl⟩ := List.mem_map.mp hf
  exact h g hg
theorem AbcF.write {F : List FS} {n : Str} {st : St0} (h : AbcF F) (hn : abcS n) : AbcF (writeZ F n st) := by
  unfold writeZ
  split
  · rename_i hi
    intro f hf
    rcases List.mem_or_eq_of_mem_set hf with hf | rfl
    · exact h f hf
    · exact (show abcS (F.getD (fiZ F n) dFS).1 from h _ (getD_mem' dFS hi))
  · intro f hf
    rcases List.mem_append.mp hf with hf | hf
    · exact h f hf
    · rw [List.mem_singleton.mp hf]; exact hn
theorem SzF.up {i j : Nat} {F : List FS} (h : SzF i F) (k : i ≤ j) : SzF j F := ⟨by have := h.1; omega, fun f hf => ⟨by have := (h.2 f hf).1; omega, fun st hst s e => by have := (h.2 f hf).2 st hst s e; omega⟩⟩
/-- what a step gives -/
def StepQ (K : PySem.W.Frag) (c : CEnv) (d t st L : Addr) (i : Nat) (Q : VK) : Prop := ∀ (r p' : Addr) (sy : Int) (H' : Hp) (M' ps' : List Addr) (qs' : List (Addr × Addr)) (F' : List FS) (T' : List TR), H' r = some (.tup [.ref p', .bl true, .int sy]) → Draw (hid H' M') st L → DiskIn K c H' d M' t qs' F' → TbM H' M' p' ps' T' → ((sy = 0 ∧ T' = tab F') ∨ (sy = 1 ∧ ∃ F0, T' = tab F0 ∧ F' = F0.map syncF ∧ BdF F0)) → (F'.map (·.1)).Nodup → AbcF F' → SzF (i + 1) F' → Q (.ref r) H'
section
variable {K : PySem.W.Frag} {c : CEnv} {H : Hp} {d t p st L A : Addr} {M ps : List Addr} {qs : List (Addr × Addr)} {F : List FS} {i : Nat} {D0 : Ends} {nm : Str} {v : V} {ns : List Int} {kd : Int}
theorem StepQ.ret {Q : VK} (q : StepQ K c d t st L i Q) {r p' : Addr} {sy : Int} {M' ps' : List Addr} {qs' : List (Addr × Addr)} {F' : List FS} {T' : List TR} {H' : Hp} (hr : H' r = none) (d7 : Draw (hid H' M') st L) (D : DiskIn K c H' d M' t qs' F') (tm : TbM H' M' p' ps' T') (h : (sy = 0 ∧ T' = tab F') ∨ (sy = 1 ∧ ∃ F0, T' = tab F0 ∧ F' = F0.map syncF ∧ BdF F0)) (nd : (F'.map (·.1)).Nodup) (abc : AbcF F') (sz : SzF (i + 1) F') : Q (.ref r) (upd H' r (.tup [.ref p', .bl true, .int sy])) :=
  have s : Same H' (upd H' r (.tup [.ref p', .bl true, .int sy])) := Same.new hr (Same.refl _)
  q r p' sy _ M' ps' qs' F' T' upd_same (d7.same (hid_same s)) (D.same s) (tm.same s) h nd abc sz
theorem z_eqW {r q : Addr} {w w' : Str} {Q : VK} (h1 : H r = some (.tup [.str w])) (h2 : H q = some (.tup [.str w'])) (e : w = w') (l : lay1 0 (.str w)) (k : Q (.bl true) H) : uEq K (.ref r) (.ref q) H Q := by
  subst e
  exact z_eqP (d := .tuple [.str w]) (n := 1) (.tup (SqT.of h1) (.cons (.str _) .nil)) (.tup (SqT.of h2) (.cons (.str _) .nil)) (lay1.tuple fun d hd => by rw [List.mem_singleton.mp hd]; exact l) (by decide) k
theorem step0 (d7 : Draw (hid H M) st L) (D : DiskIn K c H d M t qs F) (tm : TbM H M p ps (tab F)) (nd : (F.map (·.1)).Nodup) (abc : AbcF F) (sz : SzF i F) (hi : i ≤ 60) (q : StepQ K c d t st L i D0.rt) : T_stp0 K c D0 [some (.ref st), some (.ref d), some (.ref p), some (.int kd), some (.str nm), some (.ref A), some v, none, none, none, none, none, none, none, none] H := by
  obtain ⟨okd, dx, ed⟩ := D.ins
  unfold T_stp0
  walk_at "zz"
  rename_i op hop
  have s1 : Same H (upd H op (.tup [.str "sync"])) := Same.new hop (Same.refl _)
  have eo : upd H op (.tup [.str "sync"]) op = some (.tup [.str "sync"]) := upd_same
  generalize upd H op (.tup [.str "sync"]) = H1 at *
  refine ⟨d, op, rfl, ⟨dx, _, s1 _ _ ed, rfl⟩, Disk_ask_sync (D.same s1) (SqT.of eo) (sz.bd (by omega)) ?_ fun r H2 M2 qs2 mv D2 er => ?_⟩
  · cases hc : contZ F "" with
    | none => simp
    | some s => have := cont_sz sz hc; simp; omega
  have d2 := (d7.same (hid_same s1)).same mv.same
  have tm2 := (tm.same s1).disk mv
  walk_at "zz"
  rename_i x hx
  have s3 : Same H2 (upd H2 x (.tup [.str "done"])) := Same.new hx (Same.refl _)
  have e3 : upd H2 x (.tup [.str "done"]) x = some (.tup [.str "done"]) := upd_same
  have er3 := s3 _ _ (hid_le _ _ er)
  generalize upd H2 x (.tup [.str "done"]) = H3 at *
  refine z_eqW er3 e3 rfl ⟨by decide +kernel, Nat.zero_le _⟩ ?_
  walk_at "zz"
  rename_i r9 hr9
  exact q.ret hr9 (d2.same (hid_same s3)) (D2.same s3) (tm2.same s3) (.inr ⟨rfl, F, rfl, rfl, sz.bd (by omega)⟩) (sync_nodup nd) abc.sync sz.sync
theorem step2 (d7 : Draw (hid H M) st L) (D : DiskIn K c H d M t qs F) (tm : TbM H M p ps (tab F)) (nd : (F.map (·.1)).Nodup) (abc : AbcF F) (sz : SzF i F) (hi : i ≤ 60) (q : StepQ K c d t st L i D0.rt) : T_stp2 K c D0 [some (.ref st), some (.ref d), some (.ref p), some (.int kd), some (.str nm), some (.ref A), some v, none, none, none, none, none, none, none, none] H := by
  unfold T_stp2
  walk_at "zz"
  rename_i l3 hl3
  have s5 : Same H (upd H l3 (.lst [.str "look", .str "", .str "Sync"])) := Same.new hl3 (Same.refl _)
  have e5 : upd H l3 (.lst [.str "look", .str "", .str "Sync"]) l3 = some (.lst ((["look", "", "Sync"] : List Str).map V.str)) := upd_same
  have d5 := d7.same (hid_same (ps := M) s5)
  have D5 := D.same s5
  have T5 := tm.same s5
  generalize upd H l3 (.lst [.str "look", .str "", .str "Sync"]) = H5 at *
  refine law_next_c (d5.same hid_le) (by decide) (by decide) fun n2 H6 a6 b6 d6 x6 => ?_
  replace d6 := Draw.hid d5 d6
  have D6 := D5.exd x6
  have T6 := T5.exd x6
  have e6 := x6.lk e5 NotSt.strs
  have : ∃ w : Str, w ∉ WRDK ∧ atI [V.str "look", V.str "", V.str "Sync"] n2 = some (.str w) := by
    have : n2 = 0 ∨ n2 = 1 ∨ n2 = 2 := by omega
    rcases this with rfl | rfl | rfl
    · exact ⟨"look", by decide, rfl⟩
    · exact ⟨"", by decide, rfl⟩
    · exact ⟨"Sync", by decide, rfl⟩
  obtain ⟨w, hw, ew⟩ := this
  walk_at "zz"
  try refine z_ix (.inl (SqL.of e6)) ew ?_
  walk_at "zz"
  rename_i op hop
  have s1 : Same H6 (upd H6 op (.tup [.str w, .str nm])) := Same.new hop (Same.refl _)
  have eo : upd H6 op (.tup [.str w, .str nm]) op = some (.tup [.str w, .str nm]) := upd_same
  have d8 := d6.same (hid_same (ps := M) s1)
  have D8 := D6.same s1
  have T8 := T6.same s1
  generalize upd H6 op (.tup [.str w, .str nm]) = H8 at *
  obtain ⟨okd, dx, ed⟩ := D8.ins
  refine ⟨d, op, rfl, ⟨dx, _, ed, rfl⟩, d, t, op, w, "", [.str nm], [], M, qs, F, rfl, SqT.of eo, D8, sz.bd (by omega), ?_, fun _ _ => ?_, fun e => absurd (e ▸ (by decide : ("names" : Str) ∈ WRDK)) hw, fun e => absurd (e ▸ (by decide : ("sync" : Str) ∈ WRDK)) hw, fun e => absurd e hw⟩
  · cases hc : contZ F "" with
    | none => simp
    | some s => have := cont_sz sz hc; simp; omega
  walk_at "zz"
  try rw [decide_eq_true (show V.non = .non from rfl)]
  walk_at "zx"
  rename_i r9 hr9
  exact q.ret hr9 d8 D8 T8 (.inl ⟨rfl, rfl⟩) nd abc (sz.up (by omega))
theorem step1 (d7 : Draw (hid H M) st L) (D : DiskIn K c H d M t qs F) (tm : TbM H M p ps (tab F)) (nd : (F.map (·.1)).Nodup) (abc : AbcF F) (sz : SzF i F) (hi : i ≤ 60) (q : StepQ K c d t st L i D0.rt) : T_stp1 K c D0 [some (.ref st), some (.ref d), some (.ref p), some (.int kd), some (.str nm), some (.ref A), some v, none, none, none, none, none, none, none, none] H := by
  have lps : ps.length = F.length := by rw [tm.len, tab_len]
  unfold T_stp1
  walk_at "zz"
  refine z_lcl (SqL.of tm.tb) (fun C i H' => Same H H' ∧ H' C = some (.lst ((namesZ (F.take i)).map V.str))) (fun C hC => ⟨Same.new hC (Same.refl _), upd_same⟩) (fun C i H' _ _ z => SqL.of (z.1 _ _ tm.tb)) ?_ ?_
  · rintro C i x H' hC hx ⟨s1, eC⟩
    obtain ⟨hi, rfl⟩ := map_ref hx
    have hi2 : i < F.length := by omega
    have ra := tm.at (i := i) (by rw [tab_len]; exact hi2)
    rw [tab_at hi2] at ra
    have ft := namesZ_take hi2
    have ln : (namesZ (F.take i)).length ≤ 1000 := by
      unfold namesZ
      rw [List.length_map]
      refine Nat.le_trans (List.length_filter_le _ _) ?_
      rw [List.length_take]; have := sz.1; omega
    have lf := (sz.2 _ (getD_mem' dFS hi2)).1
    generalize F.getD i dFS = f at *
    obtain ⟨s, ms, ea, gs, os⟩ := ra
    replace os : All2 (OAt (gh H M)) ms (stl f) := os
    have lms := All2.len os
    have l0 : 0 < (stl f).length := by unfold stl; simp
    have l1 : (stl f).length = f.2.2.length + 1 := by unfold stl; simp
    have lo := last_o os l0
    rw [last_stl] at lo
    have es := s1 _ _ (gh_le _ _ gs)
    generalize ps.getD i 0 = a at *
    replace ea : H a = some (.lst [.str f.1, .non, .ref s]) := ea
    have ea1 := s1 _ _ ea
    have on := lo.non
    refine z_gName ⟨rfl, ?_⟩
    walk_at "zz"
    try refine z_ix (.inl (SqL.of es)) (last_ix (by omega)) ?_
    walk_at "zz"
    rw [on]
    by_cases c1 : curZ f = none
    · rw [decide_eq_true c1] at ft ⊢
      walk_at "zx"
      refine ⟨s1, ?_⟩
      rw [ft]; simpa using eC
    · rw [decide_eq_false c1] at ft ⊢
      walk_at "zx"
      refine z_accum eC (by rw [List.length_map]; omega) ⟨Same.put hC s1, ?_⟩
      rw [upd_same, ft, List.map_append]; rfl
  · rintro C H1 hC ⟨s1, eC⟩
    rw [List.length_map, lps, List.take_length] at eC
    walk_at "zz"
    rename_i op hop
    have s2 : Same H1 (upd H1 op (.tup [.str "names"])) := Same.new hop (Same.refl _)
    have eo : upd H1 op (.tup [.str "names"]) op = some (.tup [.str "names"]) := upd_same
    have s02 := Same.trans s1 s2
    have eC2 := s2 _ _ eC
    generalize upd H1 op (.tup [.str "names"]) = H2 at *
    obtain ⟨okd, dx, ed⟩ := D.ins
    refine ⟨d, op, rfl, ⟨dx, _, s02 _ _ ed, rfl⟩, d, t, op, "names", "", [], [], M, qs, F, rfl, SqT.of eo, D.same s02, sz.bd (by omega), ?_, fun e => absurd (by decide) e, fun _ r a H3 ha s3 er ea _ => ?_, fun e => absurd e (by decide), fun _ e => absurd rfl e⟩
    · cases hc : contZ F "" with
      | none => simp
      | some s => have := cont_sz sz hc; simp; omega
    have eC3 := s3 _ _ eC2
    walk_at "zz"
    rename_i x hx
    have s4 : Same H3 (upd H3 x (.tup [.str "names", .ref C])) := Same.new hx (Same.refl _)
    have e4 : upd H3 x (.tup [.str "names", .ref C]) x = some (.tup [.str "names", .ref C]) := upd_same
    have er4 := s4 _ _ er
    have ea4 := s4 _ _ ea
    have eC4 := s4 _ _ eC3
    have s04 := Same.trans s02 (Same.trans s3 s4)
    generalize upd H3 x (.tup [.str "names", .ref C]) = H4 at *
    have dpN : ∀ {l : List Str}, DpAll K H4 (l.map V.str) (l.map PyData.str) := fun {l} => by
      induction l with
      | nil => exact .nil
      | cons x l ih => exact .cons (.str _) ih
    refine z_eqP (d := .tuple [.str "names", .list ((namesZ F).map PyData.str)]) (n := 2) (.tup (SqT.of er4) (.cons (.str _) (.cons (.lst (SqL.of ea4) dpN) .nil))) (.tup (SqT.of e4) (.cons (.str _) (.cons (.lst (SqL.of eC4) dpN) .nil))) (lay1.tuple fun d hd => ?_) (by decide) ?_
    · rcases List.mem_cons.mp hd with rfl | hd
      · exact ⟨by decide +kernel, Nat.zero_le _⟩
      · rw [List.mem_singleton.mp hd]
        refine lay1.list fun d hd => ?_
        obtain ⟨n, hn, rfl⟩ := List.mem_map.mp hd
        obtain ⟨f, hf, rfl⟩ := List.mem_map.mp hn
        exact (abc f (List.mem_filter.mp hf).1).lay
    walk_at "zz"
    rename_i r9 hr9
    exact q.ret hr9 (d7.same (hid_same s04)) (D.same s04) (tm.same s04) (.inl ⟨rfl, rfl⟩) nd abc (sz.up (by omega))
theorem step3 (d7 : Draw (hid H M) st L) (D : DiskIn K c H d M t qs F) (tm : TbM H M p ps (tab F)) (nd : (F.map (·.1)).Nodup) (abc : AbcF F) (sz : SzF i F) (hi : i ≤ 60) (ov : OAt (gh H M) v (contZ F nm)) (q : StepQ K c d t st L i D0.rt) : T_stp3 K c D0 [some (.ref st), some (.ref d), some (.ref p), some (.int kd), some (.str nm), some (.ref A), some v, none, none, none, none, none, none, none, none] H := by
  obtain ⟨okd, dx, ed⟩ := D.ins
  unfold T_stp3
  walk_at "zz"
  rename_i op hop
  have s1 : Same H (upd H op (.tup [.str "read", .str nm])) := Same.new hop (Same.refl _)
  have eo : upd H op (.tup [.str "read", .str nm]) op = some (.tup [.str "read", .str nm]) := upd_same
  generalize upd H op (.tup [.str "read", .str nm]) = H1 at *
  have csn : ([] : List Int).length + ((contZ F nm).getD []).length ≤ 100000 := by
    cases hc : contZ F nm with
    | none => simp
    | some s => have := cont_sz sz hc; simp; omega
  refine ⟨d, op, rfl, ⟨dx, _, s1 _ _ ed, rfl⟩, Disk_ask_op (w := "read") (n := nm) (xs := []) (by decide) (.inl ⟨by decide, [], SqT.of eo⟩) (D.same s1) (sz.bd (by omega)) csn fun r H2 M2 qs2 mv D2 er hr => ?_⟩
  have ov1 := ov.same (Same.trans gh_le s1)
  cases hc : contZ F nm with
  | none =>
    rw [hc] at ov1
    obtain rfl : v = .non := ov1
    have ea : (askZ F "read" nm []).2 = .ref := by unfold askZ; rw [hc]; rfl
    rw [ea] at er
    obtain ⟨s2, er⟩ := er
    walk_at "zz"
    try rw [decide_eq_true (show V.non = .non from rfl)]
    walk_at "zx"
    rename_i x hx
    have s3 : Same H2 (upd H2 x (.tup [.str "refused"])) := Same.new hx (Same.refl _)
    have e3 : upd H2 x (.tup [.str "refused"]) x = some (.tup [.str "refused"]) := upd_same
    have er3 := s3 _ _ (hid_le _ _ er)
    generalize upd H2 x (.tup [.str "refused"]) = H3 at *
    have s03 := Same.trans s1 (Same.trans s2 s3)
    refine z_eqW er3 e3 rfl ⟨by decide +kernel, Nat.zero_le _⟩ ?_
    walk_at "zz"
    rename_i r9 hr9
    exact q.ret hr9 (d7.same (hid_same s03)) (D.same s03) (tm.same s03) (.inl ⟨rfl, rfl⟩) nd abc (sz.up (by omega))
  | some s0 =>
    have hs0 := cont_sz sz hc
    rw [hc] at ov1
    obtain ⟨a, rfl, ea⟩ := ov1
    have er2 : (askZ F "read" nm []).2 = .nums s0 := by unfold askZ; rw [hc]; rfl
    rw [er2] at er
    obtain ⟨s2, b, hb, er, eb⟩ := er
    replace er := hid_le _ _ er
    replace eb := hid_le _ _ eb
    replace ea := s2 _ _ ea
    walk_at "zz"
    try rw [decide_eq_false (show ¬ V.ref a = .non from fun z => by cases z)]
    walk_at "zx"
    rename_i x hx
    have s3 : Same H2 (upd H2 x (.tup [.str "numbers", .ref a])) := Same.new hx (Same.refl _)
    have e3 : upd H2 x (.tup [.str "numbers", .ref a]) x = some (.tup [.str "numbers", .ref a]) := upd_same
    have er3 := s3 _ _ er
    have eb3 := s3 _ _ eb
    have ea3 := s3 _ _ ea
    have s13 := Same.trans s2 s3
    generalize upd H2 x (.tup [.str "numbers", .ref a]) = H3 at *
    refine z_eqP (d := .tuple [.str "numbers", .list (diI s0)]) (n := 2) (.tup (SqT.of er3) (.cons (.str _) (.cons (dpLI (SqL.of eb3)) .nil))) (.tup (SqT.of e3) (.cons (.str _) (.cons (dpLI (SqL.of ea3)) .nil))) (lay1.tuple fun d hd => ?_) (by decide) ?_
    · rcases List.mem_cons.mp hd with rfl | hd
      · exact ⟨by decide +kernel, Nat.zero_le _⟩
      · rw [List.mem_singleton.mp hd]; exact lay1.list lay1.ints
    walk_at "zz"
    refine z_cut (fun σ' H4 => Same H1 H4 ∧ ∃ w : Option V, σ' = [some (.ref st), some (.ref d), some (.ref p), some (.int kd), some (.str nm), some (.ref A), some (.ref a), none, none, some (.ref r), some (.bl true), w, none, none, none]) ?_ ?_
    · walk_at "zz"
      try refine z_ix (.inr (SqT.of er3)) (v := .ref b) rfl ?_
      walk_at "zz"
      refine z_app eb3 (by rw [List.length_map]; omega) ?_
      exact ⟨Same.put hb s13, _, rfl⟩
    · rintro σ' H4 ⟨s14, w, rfl⟩
      have s04 := Same.trans s1 s14
      walk_at "zz"
      rename_i r9 hr9
      exact q.ret hr9 (d7.same (hid_same s04)) (D.same s04) (tm.same s04) (.inl ⟨rfl, rfl⟩) nd abc (sz.up (by omega))
end

section
variable {K : PySem.W.Frag} {c : CEnv} {H : Hp} {d t p st L A : Addr} {M ps : List Addr} {qs : List (Addr × Addr)} {F : List FS} {i : Nat} {D0 : Ends} {nm : Str} {v : V} {ns : List Int} {kd : Int}
theorem word_at (h0 : 0 ≤ kd) (h9 : kd < 9) (k0 : ¬ kd = 0) (k1 : ¬ kd = 1) (k2 : ¬ kd = 2) (k3 : ¬ kd = 3) : ∃ w : Str, (w = "append" ∨ w = "make" ∨ w = "remove") ∧ atI [V.str "append", V.str "append", V.str "make", V.str "make", V.str "remove"] (kd - 4) = some (.str w) := by
  have : kd = 4 ∨ kd = 5 ∨ kd = 6 ∨ kd = 7 ∨ kd = 8 := by omega
  rcases this with rfl | rfl | rfl | rfl | rfl
  · exact ⟨"append", .inl rfl, rfl⟩
  · exact ⟨"append", .inl rfl, rfl⟩
  · exact ⟨"make", .inr (.inl rfl), rfl⟩
  · exact ⟨"make", .inr (.inl rfl), rfl⟩
  · exact ⟨"remove", .inr (.inr rfl), rfl⟩
theorem ask_no {w : Str} {xs : List Int} (h : ¬ decide (contZ F nm = none) = decide (w = "make")) : askZ F w nm xs = (F, .ref) := by unfold askZ; rw [if_neg h]
theorem tab_ne : ∀ r ∈ tab F, r.2 ≠ [] := fun r hr => by
  obtain ⟨f, _, rfl⟩ := List.mem_map.mp hr
  intro z; cases z
theorem tab_sz (sz : SzF i F) : ∀ r ∈ tab F, r.2.length ≤ i + 1 := fun r hr => by
  obtain ⟨f, hf, rfl⟩ := List.mem_map.mp hr
  have := (sz.2 f hf).1
  show (stl f).length ≤ i + 1
  unfold stl; simp; exact this
theorem step4 (d7 : Draw (hid H M) st L) (D : DiskIn K c H d M t qs F) (tm : TbM H M p ps (tab F)) (nd : (F.map (·.1)).Nodup) (abc : AbcF F) (sz : SzF i F) (hi : i ≤ 60) (ov : OAt (gh H M) v (contZ F nm)) (hA : A ∉ M) (eA : H A = some (.lst (ns.map V.int))) (lns : ns.length ≤ 3) (hnm : abcS nm) (h0 : 0 ≤ kd) (h9 : kd < 9) (k0 : ¬ kd = 0) (k1 : ¬ kd = 1) (k2 : ¬ kd = 2) (k3 : ¬ kd = 3) (q : StepQ K c d t st L i D0.rt) : T_stp4 K c D0 [some (.ref st), some (.ref d), some (.ref p), some (.int kd), some (.str nm), some (.ref A), some v, none, none, none, none, none, none, none, none] H := by
  obtain ⟨okd, dx, ed⟩ := D.ins
  have gA : gh H M A = some (.lst (ns.map V.int)) := gh_lk hA eA NotSt.ints
  obtain ⟨w, hw, ew⟩ := word_at h0 h9 k0 k1 k2 k3
  have bd := sz.bd (by omega)
  have csn : ns.length + ((contZ F nm).getD []).length ≤ 100000 := by
    cases hc : contZ F nm with
    | none => simp; omega
    | some s => have := cont_sz sz hc; simp; omega
  unfold T_stp4
  walk_at "zz"
  rename_i l0 hl0 l hl op hop
  have s1 : Same H (upd H l0 (.lst [.str "append", .str "append", .str "make", .str "make", .str "remove"])) := Same.new hl0 (Same.refl _)
  have e1 : upd H l0 (.lst [.str "append", .str "append", .str "make", .str "make", .str "remove"]) l0 = some (.lst [.str "append", .str "append", .str "make", .str "make", .str "remove"]) := upd_same
  generalize upd H l0 (.lst [.str "append", .str "append", .str "make", .str "make", .str "remove"]) = H1 at *
  have eA1 := s1 _ _ eA
  have s2 : Same H1 (upd H1 l (.lst (ns.map V.int))) := Same.new hl (Same.refl _)
  have e2 : upd H1 l (.lst (ns.map V.int)) l = some (.lst (ns.map V.int)) := upd_same
  generalize upd H1 l (.lst (ns.map V.int)) = H2 at *
  have s3 : Same H2 (upd H2 op (.tup [.str w, .str nm, .ref l])) := Same.new hop (Same.refl _)
  have e3 : upd H2 op (.tup [.str w, .str nm, .ref l]) op = some (.tup [.str w, .str nm, .ref l]) := upd_same
  have el3 := s3 _ _ e2
  generalize upd H2 op (.tup [.str w, .str nm, .ref l]) = H3 at *
  have s03 := Same.trans s1 (Same.trans s2 s3)
  have hop : OpAt K H3 op w nm ns := by
    rcases hw with h | h | h
    · exact .inr ⟨.inr h, l, SqT.of e3, el3⟩
    · exact .inr ⟨.inl h, l, SqT.of e3, el3⟩
    · exact .inl ⟨.inr h, [.ref l], SqT.of e3⟩
  have D3 := D.same s03
  have d3 := d7.same (hid_same (ps := M) s03)
  have tm3 := tm.same s03
  have gg3 := gh_same (M := M) s03
  have gl3 : gh H3 M l = some (.lst (ns.map V.int)) := gh_lk ((D.oc.occ.same s1).no hl) el3 NotSt.ints
  refine ⟨d, op, rfl, ⟨dx, _, s03 _ _ ed, rfl⟩, Disk_ask_op (w := w) (n := nm) (xs := ns) (by rcases hw with rfl | rfl | rfl <;> decide) hop D3 bd csn fun r H4 M4 qs4 mv D4 er hr => ?_⟩
  have d4 := d3.same mv.same
  have tm4 := tm3.disk mv
  have gl4 := mv.gh _ _ gl3
  have gA4 := mv.gh _ _ (gg3 _ _ gA)
  have ov4 := (ov.same gg3).same mv.gh
  walk_at "zz"
  refine z_neD (d := .list (diI ns)) (e := .list (diI ns)) (dpLI (SqL.of (gh_le _ _ gl4))) (dpLI (SqL.of (gh_le _ _ gA4))) (lay1.sh (n := 1) (lay1.list lay1.ints) (by decide)) (lay1.sh (n := 1) (lay1.list lay1.ints) (by decide)) ?_
  rw [show PyData.eqv (.list (diI ns)) (.list (diI ns)) = true from SeqAt.eqv_refl _ (lay1.list (n := 0) lay1.ints).1]
  walk_at "zx"
  rw [ov4.non]
  by_cases c1 : decide (contZ F nm = none) = decide (w = "make")
  · rw [c1]
    try rw [decide_eq_true (show decide (w = "make") = decide (w = "make") from rfl)]
    walk_at "zx"
    have er2 : (askZ F w nm ns).2 = .done := by
      unfold askZ
      rw [if_pos c1]
      rcases hw with rfl | rfl | rfl <;> rfl
    rw [er2] at er
    replace er : hid H4 M4 r = some (.tup [.str "done"]) := er
    refine z_cut (fun σ' H5 => Same H4 H5 ∧ ∃ (u : V) (stn : St0), OAt (gh H5 M4) u stn ∧ (askZ F w nm ns).1 = writeZ F nm stn ∧ (∀ s, stn = some s → s.length ≤ 3 * (i + 1)) ∧ σ' = [some (.ref st), some (.ref d), some (.ref p), some (.int kd), some (.str nm), some (.ref A), some v, none, none, some (.ref r), none, none, some (.str w), some (.ref l), some u]) ?_ ?_
    · walk_at "zz"
      rcases hw with rfl | rfl | rfl
      · have c2 : ¬ contZ F nm = none := fun z => by rw [decide_eq_true z] at c1; exact absurd c1 (by decide)
        obtain ⟨s0, hs0⟩ := Option.ne_none_iff_exists'.mp c2
        rw [hs0] at ov4
        obtain ⟨a, rfl, ea⟩ := ov4
        have ls0 := cont_sz sz hs0
        walk_at "zx"
        refine z_addL (gh_le _ _ ea) (gh_le _ _ gA4) (by rw [List.length_map, List.length_map]; omega) fun l9 hl9 => ?_
        have s9 : Same H4 (upd H4 l9 (.lst (s0.map V.int ++ ns.map V.int))) := Same.new hl9 (Same.refl _)
        have g9 : gh (upd H4 l9 (.lst (s0.map V.int ++ ns.map V.int))) M4 l9 = some (.lst ((s0 ++ ns).map V.int)) := gh_lk (D4.oc.occ.no hl9) (by rw [upd_same, List.map_append]) NotSt.ints
        walk_at "zz"
        exact ⟨s9, _, some (s0 ++ ns), ⟨l9, rfl, g9⟩, by rw [ask_append hs0], fun s e => by rw [← Option.some.inj e, List.length_append]; omega, rfl⟩
      · have c2 : contZ F nm = none := by
          have : decide (contZ F nm = none) = true := by rw [c1]; decide
          exact of_decide_eq_true this
        walk_at "zx"
        exact ⟨Same.refl _, _, some ns, ⟨A, rfl, gA4⟩, by rw [ask_make c2], fun s e => by rw [← Option.some.inj e]; omega, rfl⟩
      · have c2 : ¬ contZ F nm = none := fun z => by rw [decide_eq_true z] at c1; exact absurd c1 (by decide)
        walk_at "zx"
        exact ⟨Same.refl _, _, none, rfl, by rw [ask_remove c2], (fun s e => by cases e), rfl⟩
    · rintro σ' H5 ⟨s5, u, stn, ou, ea, hs, rfl⟩
      rw [ea] at D4
      walk_at "zz"
      refine ⟨p, d, t, nm, u, M4, ps, qs4, writeZ F nm stn, tab F, stn, rfl, tm4.same s5, D4.same s5, ou, by rw [tab_names]; exact nd, by rw [tab_len]; have := sz.1; omega, fun r hr => by have := tab_sz sz r hr; omega, fun p' ps' H6 M6 mv6 tm6 D6 => ?_⟩
      rw [add_tab nd] at tm6
      have d6 := (d4.same (hid_same s5)).same mv6.same
      have er6 := hid_le _ _ (mv6.same _ _ (hid_same s5 _ _ er))
      walk_at "zz"
      rename_i x hx
      have s7 : Same H6 (upd H6 x (.tup [.str "done"])) := Same.new hx (Same.refl _)
      have e7 : upd H6 x (.tup [.str "done"]) x = some (.tup [.str "done"]) := upd_same
      have er7 := s7 _ _ er6
      generalize upd H6 x (.tup [.str "done"]) = H7 at *
      refine z_eqW er7 e7 rfl ⟨by decide +kernel, Nat.zero_le _⟩ ?_
      walk_at "zz"
      rename_i r9 hr9
      exact q.ret hr9 (d6.same (hid_same s7)) (D6.same s7) (tm6.same s7) (.inl ⟨rfl, rfl⟩) (write_nodup nd) (abc.write hnm) (sz.write hs)
  · rw [decide_eq_false c1]
    walk_at "zx"
    rw [ask_no c1] at er D4
    obtain ⟨s4, er⟩ := er
    rename_i x hx
    have s7 : Same H4 (upd H4 x (.tup [.str "refused"])) := Same.new hx (Same.refl _)
    have e7 : upd H4 x (.tup [.str "refused"]) x = some (.tup [.str "refused"]) := upd_same
    have er7 := s7 _ _ (hid_le _ _ er)
    generalize upd H4 x (.tup [.str "refused"]) = H7 at *
    refine z_eqW er7 e7 rfl ⟨by decide +kernel, Nat.zero_le _⟩ ?_
    walk_at "zz"
    rename_i r9 hr9
    exact q.ret hr9 (d4.same (hid_same s7)) (D4.same s7) (tm4.same s7) (.inl ⟨rfl, rfl⟩) nd abc (sz.up (by omega))
end
def sp_law_step (K : PySem.W.Frag) (c : CEnv) : Sp := fun vs H Q _ => ∃ (st L d t p : Addr) (M ps : List Addr) (qs : List (Addr × Addr)) (F : List FS) (i : Nat), vs = [.ref st, .ref d, .ref p] ∧ Draw (hid H M) st L ∧ DiskIn K c H d M t qs F ∧ TbM H M p ps (tab F) ∧ (F.map (·.1)).Nodup ∧ AbcF F ∧ SzF i F ∧ i ≤ 60 ∧ StepQ K c d t st L i Q
theorem w_law_step {K : PySem.W.Frag} {c : CEnv} : Wd (T_law_step K c) N_law_step 3 (sp_law_step K c) := fun vs H Q E h => by
  obtain ⟨st, L, d, t, p, M, ps, qs, F, i, rfl, d0, D0, tm0, nd, abc, sz, hi, q⟩ := h
  refine ⟨rfl, ?_⟩
  show T_law_step K c _ [some (.ref st), some (.ref d), some (.ref p), none, none, none, none, none, none, none, none, none, none, none, none] H
  rw [step_eq]
  unfold T_law_stepS
  walk_at "zz"
  refine law_next_c (d0.same hid_le) (by decide) (by decide) fun kd H4 a4 b4 d4 x4 => ?_
  replace d4 := Draw.hid d0 d4
  have D4 := D0.exd x4
  have T4 := tm0.exd x4
  clear d0 D0 tm0
  walk_at "zz"
  rename_i l3 hl3
  have s5 : Same H4 (upd H4 l3 (.lst [.str "a", .str "b", .str "c"])) := Same.new hl3 (Same.refl _)
  have e5 : upd H4 l3 (.lst [.str "a", .str "b", .str "c"]) l3 = some (.lst ((["a", "b", "c"] : List Str).map V.str)) := upd_same
  have d5 := d4.same (hid_same (ps := M) s5)
  have D5 := D4.same s5
  have T5 := T4.same s5
  generalize upd H4 l3 (.lst [.str "a", .str "b", .str "c"]) = H5 at *
  clear d4 D4 T4
  refine law_next_c (d5.same hid_le) (by decide) (by decide) fun n2 H6 a6 b6 d6 x6 => ?_
  replace d6 := Draw.hid d5 d6
  have D6 := D5.exd x6
  have T6 := T5.exd x6
  have e6 := x6.lk e5 NotSt.strs
  obtain ⟨nm, hnm, enm⟩ := abc_at' a6 b6
  walk_at "zz"
  try refine z_ix (.inl (SqL.of e6)) enm ?_
  walk_at "zz"
  refine ⟨st, L, M, rfl, d6, D6.oc, fun A ns H7 hA x7 d7 eA lns => ?_⟩
  have D7 := D6.exd x7
  have T7 := T6.exd x7
  clear d5 D5 T5 d6 D6 T6 e5 e6
  walk_at "zz"
  refine law_contents_c T7 tab_ne (by rw [tab_len]; have := sz.1; omega) fun v ov => ?_
  rw [tcont] at ov
  walk_at "zz"
  by_cases k0 : kd = 0
  · rw [decide_eq_true k0]
    refine step0 d7 D7 T7 nd abc sz hi q
  rw [decide_eq_false k0]
  walk_at "zx"
  by_cases k1 : kd = 1
  · rw [decide_eq_true k1]
    refine step1 d7 D7 T7 nd abc sz hi q
  rw [decide_eq_false k1]
  walk_at "zx"
  by_cases k2 : kd = 2
  · rw [decide_eq_true k2]
    refine step2 d7 D7 T7 nd abc sz hi q
  rw [decide_eq_false k2]
  walk_at "zx"
  by_cases k3 : kd = 3
  · rw [decide_eq_true k3]
    refine step3 d7 D7 T7 nd abc sz hi ov q
  rw [decide_eq_false k3]
  walk_at "zx"
  exact step4 d7 D7 T7 nd abc sz hi ov hA eA lns hnm a4 b4 k0 k1 k2 k3 q

abbrev N_law : List Str := ["_law_script", "_law_state", "_law_disk", "_law_table", "_law_turn", "_law_cuts", "_law_k", "_law_good", "_law_synced", "_law_row_here", "_law_due"]
-- law(_law_script): slots 0:_law_script 1:_law_state 2:_law_disk 3:_law_table 4:_law_turn 5:_law_cuts 6:_law_k 7:_law_good 8:_law_synced 9:_law_row_here 10:_law_due
def T_law_b1 (K : PySem.W.Frag) : TS :=
    (tDrop (tBM K "list" rAppend (tVar 5) (tCons (tTup (tCons (tOp (uIx K) (tLst (tCons (tC (.str "a")) (tCons (tC (.str "b")) (tCons (tC (.str "c")) tNil)))) (tCal (sp_law_next K) (tCons (tVar 1) (tCons (tC (.int 3)) tNil)))) (tCons (tOp uSub (tCal (sp_law_next K) (tCons (tVar 1) (tCons (tC (.int 6)) tNil))) (tC (.int 1))) (tCons (tCal (sp_law_next K) (tCons (tVar 1) (tCons (tC (.int 9)) tNil))) tNil)))) tNil)))
def T_law_b2 (K : PySem.W.Frag) : TS :=
    (tIfS (tOr (tTest (tOp uIsNot (tOp (uIx K) (tOp (uIx K) (tVar 9) (tC (.int 2))) (tC (.int 0))) (tC .non))) (tTest (tOp uIsNot (tOp (uIx K) (tOp (uIx K) (tVar 9) (tC (.int 2))) (tOp uSub (tCB (uLen K) (tCons (tOp (uIx K) (tVar 9) (tC (.int 2))) tNil)) (tC (.int 1)))) (tC .non)))) (tDrop (tBM K "list" rAppend (tVar 10) (tCons (tTup (tCons (tOp (uIx K) (tVar 9) (tC (.int 0))) (tCons (tOp (uIx K) (tOp (uIx K) (tVar 9) (tC (.int 2))) (tC (.int 0))) (tCons (tOp (uIx K) (tOp (uIx K) (tVar 9) (tC (.int 2))) (tOp uSub (tCB (uLen K) (tCons (tOp (uIx K) (tVar 9) (tC (.int 2))) tNil)) (tC (.int 1)))) tNil)))) tNil))) tNext)
def T_law_b3 (K : PySem.W.Frag) (c : CEnv) : TS :=
    (tCut (tIfS (tTest (tOp (uEq K) (tCal (sp_law_next K) (tCons (tVar 1) (tCons (tC (.int 6)) tNil))) (tC (.int 0)))) (tSeq (tAsg (tLst tNil) (gName 5))
    (tSeq (tFor (iRng1 (tCons (tCal (sp_law_next K) (tCons (tVar 1) (tCons (tC (.int 4)) tNil))) tNil)) (gName 6) (T_law_b1 K))
    (tSeq (tDrop (tMt c "Disk" "crash" (sp_Disk_crash K c) (tVar 2) (tCons (tCB (uList K) (tCons (tVar 5) tNil)) tNil)))
    (tAsg (tCal (sp_law_crash K c) (tCons (tVar 3) (tCons (tVar 5) tNil))) (gName 3))))) tNext)
    (tSeq (tAsg (tCal (sp_law_step K c) (tCons (tVar 1) (tCons (tVar 2) (tCons (tVar 3) tNil)))) (gTup K 3 (gCons (gName 3) (gCons (gName 7) (gCons (gName 8) gNil)))))
    (tSeq (tIfS (tNot (tTru K (tVar 7))) (tRet (tC (.bl false))) tNext)
    (tCut (tIfS (tTest (tOp (uEq K) (tVar 8) (tC (.int 1)))) (tAsg (tLc (iSq K (tVar 3)) (gName 9) tYes (tLst (tCons (tOp (uIx K) (tVar 9) (tC (.int 0))) (tCons (tC .non) (tCons (tSl (uSl K) (tOp (uIx K) (tVar 9) (tC (.int 2))) (tPart (tOp uSub (tCB (uLen K) (tCons (tOp (uIx K) (tVar 9) (tC (.int 2))) tNil)) (tC (.int 1)))) tNoPart) tNil)))) [9]) (gName 3)) tNext)
    (tSeq (tAsg (tLst tNil) (gName 10))
    (tSeq (tFor (iSq K (tVar 3)) (gName 9) (T_law_b2 K))
    (tIfS (tTest (tOp (uNe K) (tMt c "Disk" "files" (sp_Disk_files K c) (tVar 2) tNil) (tVar 10))) (tRet (tC (.bl false))) tNext)))))))
def T_law (K : PySem.W.Frag) (c : CEnv) : TS :=
    (tSeq (tAsg (tLst (tCons (tCB (uList K) (tCons (tVar 0) tNil)) (tCons (tC (.int 0)) (tCons (tC (.int 0)) tNil)))) (gName 1))
    (tSeq (tAsg (tMk K c "Disk" ["table"] (sp_Disk_init K c) tNil) (gName 2))
    (tSeq (tAsg (tLst tNil) (gName 3))
    (tSeq (tFor (iRng1 (tCons (tC (.int 30)) tNil)) (gName 4) (T_law_b3 K c))
    (tRet (tC (.bl true)))))))
def T_lawA (K : PySem.W.Frag) (c : CEnv) : TS :=
    (tSeq (tAsg (tLst tNil) (gName 5))
    (tSeq (tFor (iRng1 (tCons (tCal (sp_law_next K) (tCons (tVar 1) (tCons (tC (.int 4)) tNil))) tNil)) (gName 6) (T_law_b1 K))
    (tSeq (tDrop (tMt c "Disk" "crash" (sp_Disk_crash K c) (tVar 2) (tCons (tCB (uList K) (tCons (tVar 5) tNil)) tNil)))
    (tAsg (tCal (sp_law_crash K c) (tCons (tVar 3) (tCons (tVar 5) tNil))) (gName 3)))))
def T_lawB (K : PySem.W.Frag) (c : CEnv) : TS :=
    (tAsg (tLc (iSq K (tVar 3)) (gName 9) tYes (tLst (tCons (tOp (uIx K) (tVar 9) (tC (.int 0))) (tCons (tC .non) (tCons (tSl (uSl K) (tOp (uIx K) (tVar 9) (tC (.int 2))) (tPart (tOp uSub (tCB (uLen K) (tCons (tOp (uIx K) (tVar 9) (tC (.int 2))) tNil)) (tC (.int 1)))) tNoPart) tNil)))) [9]) (gName 3))
def T_lawC (K : PySem.W.Frag) (c : CEnv) : TS :=
    (tSeq (tAsg (tLst tNil) (gName 10))
    (tSeq (tFor (iSq K (tVar 3)) (gName 9) (T_law_b2 K))
    (tIfS (tTest (tOp (uNe K) (tMt c "Disk" "files" (sp_Disk_files K c) (tVar 2) tNil) (tVar 10))) (tRet (tC (.bl false))) tNext)))
def T_law_b3S (K : PySem.W.Frag) (c : CEnv) : TS :=
    (tCut (tIfS (tTest (tOp (uEq K) (tCal (sp_law_next K) (tCons (tVar 1) (tCons (tC (.int 6)) tNil))) (tC (.int 0)))) (T_lawA K c) tNext)
    (tSeq (tAsg (tCal (sp_law_step K c) (tCons (tVar 1) (tCons (tVar 2) (tCons (tVar 3) tNil)))) (gTup K 3 (gCons (gName 3) (gCons (gName 7) (gCons (gName 8) gNil)))))
    (tSeq (tIfS (tNot (tTru K (tVar 7))) (tRet (tC (.bl false))) tNext)
    (tCut (tIfS (tTest (tOp (uEq K) (tVar 8) (tC (.int 1)))) (T_lawB K c) tNext)
    (T_lawC K c)))))

theorem b3_eq {K : PySem.W.Frag} {c : CEnv} : T_law_b3 K c = T_law_b3S K c := rfl
/-- what stands at each turn -/
def LSt (K : PySem.W.Frag) (c : CEnv) (p l d t : Addr) (H : Hp) (tb : Addr) (F : List FS) (j : Nat) : Prop := ∃ (M ps : List Addr) (qs : List (Addr × Addr)), Draw (hid H M) p l ∧ DiskIn K c H d M t qs F ∧ TbM H M tb ps (tab F) ∧ (F.map (·.1)).Nodup ∧ AbcF F ∧ SzF j F
theorem left_sz {f : FS} {cs : List Cut} {i : Nat} (h : ∀ st ∈ stl f, ∀ s, st = some s → s.length ≤ 3 * i) : ∀ s, leftF cs f = some s → s.length ≤ 3 * i := fun s e => by
  have w := W1.leftF (f := f) (cs := cs)
  rw [e] at w
  rcases w with w | ⟨k, h0, h1, w | ⟨x, n, ex, ew, _⟩⟩
  · exact h _ (by rw [w]; unfold stl; exact List.mem_cons_self ..) s rfl
  · cases w.2
  · have hx := h _ (getD_mem' none h1) x ex
    rw [Option.some.inj ew, List.length_take]; omega
theorem SzF.crash {i : Nat} {F : List FS} {cs : List Cut} (h : SzF i F) : SzF i (F.map (crashF cs)) := ⟨by rw [List.length_map]; exact h.1, fun f hf => by
  obtain ⟨g, hg, rfl⟩ := List.mem_map.mp hf
  have l0 := List.length_pos_of_mem hg
  have l1 := h.1
  refine ⟨by rw [crash_since]; split <;> simp; omega, fun st hst s e => ?_⟩
  subst e
  rcases List.mem_cons.mp hst with e | hm
  · exact (h.2 g hg).2 _ (by rw [e, crash_sure]; unfold stl; exact List.mem_cons_self ..) s rfl
  · rw [crash_since] at hm
    split at hm
    · cases hm
    · exact left_sz (cs := cs) (h.2 g hg).2 s (List.mem_singleton.mp hm).symm⟩
theorem crash_nodup {F : List FS} {cs : List Cut} (nd : (F.map (·.1)).Nodup) : ((F.map (crashF cs)).map (·.1)).Nodup := by rw [List.map_map]; exact nd
section
variable {K : PySem.W.Frag} {c : CEnv} {p l d t tb : Addr} {H : Hp} {F : List FS} {j : Nat} {D0 : Ends} {a : Addr} {v4 v5 v6 v7 v8 v9 v10 : Option V}
theorem lawA (h : LSt K c p l d t H tb F j) (hj : j ≤ 40) (q : ∀ H' tb' F' w5 w6, LSt K c p l d t H' tb' F' j → D0.nx [some (.ref a), some (.ref p), some (.ref d), some (.ref tb'), v4, w5, w6, v7, v8, v9, v10] H') : T_lawA K c D0 [some (.ref a), some (.ref p), some (.ref d), some (.ref tb), v4, v5, v6, v7, v8, v9, v10] H := by
  obtain ⟨M, ps, qs, d0, D, tm, nd, abc, sz⟩ := h
  unfold T_lawA
  walk_at "zz"
  rename_i C hC
  have nC1 : C ≠ p := Draw.ne hC (d0.same hid_le)
  have nC2 : C ≠ l := Draw.neL hC (d0.same hid_le)
  have nCM := D.oc.occ.no hC
  have x1 : ExD H (upd H C (.lst [])) := ExD.new hC (ExD.refl _)
  have d1 : Draw (hid (upd H C (.lst [])) M) p l := d0.same (hid_same (Same.new hC (Same.refl _)))
  have e1 : upd H C (.lst []) C = some (.lst (([] : List Addr).map V.ref)) := upd_same
  generalize upd H C (.lst []) = H1 at *
  refine law_next_c (d1.same hid_le) (by decide) (by decide) fun n H2 a2 b2 d2 x2 => ?_
  replace d2 := Draw.hid d1 d2
  have e2 := x2.lk e1 NotSt.refs
  have x02 := x1.trans x2
  walk_at "zz"
  refine z_rng1 (by omega) ?_ (by omega)
  refine z_rng (fun i σ H' => ∃ (w6 : Option V) (us : List Addr) (cs : List Cut), σ = [some (.ref a), some (.ref p), some (.ref d), some (.ref tb), v4, some (.ref C), w6, v7, v8, v9, v10] ∧ ExD H H' ∧ Draw (hid H' M) p l ∧ H' C = some (.lst (us.map V.ref)) ∧ DpAll K (gh H' (C :: M)) (us.map V.ref) (cs.map cutD) ∧ cs.length = i ∧ ∀ x ∈ cs, 0 ≤ x.2.2)
    ⟨_, [], [], rfl, x02, d2, e2, .nil, rfl, fun x hx => nomatch hx⟩ ?_ ?_
  · rintro i σ H3 hi ⟨w6, us, cs, rfl, x3, d3, e3, rm3, lcs, pcs⟩
    have lus := dpsLen rm3
    rw [List.length_map, List.length_map] at lus
    unfold T_law_b1
    walk_at "zz"
    rename_i l3 hl3
    have s4 : Same H3 (upd H3 l3 (.lst [.str "a", .str "b", .str "c"])) := Same.new hl3 (Same.refl _)
    have e4 : upd H3 l3 (.lst [.str "a", .str "b", .str "c"]) l3 = some (.lst ((["a", "b", "c"] : List Str).map V.str)) := upd_same
    have d4 := d3.same (hid_same (ps := M) s4)
    have eC4 := s4 _ _ e3
    have rm4 := dpsS (gh_same (M := C :: M) s4) rm3
    generalize upd H3 l3 (.lst [.str "a", .str "b", .str "c"]) = H4 at *
    refine law_next_c (d4.same hid_le) (by decide) (by decide) fun n0 H5 a5 b5 d5 x5 => ?_
    replace d5 := Draw.hid d4 d5
    obtain ⟨nm, hnm, enm⟩ := abc_at' a5 b5
    have e5 := x5.lk e4 NotSt.strs
    walk_at "zz"
    try refine z_ix (.inl (SqL.of e5)) enm ?_
    try walk_at "zz"
    refine law_next_c (d5.same hid_le) (by decide) (by decide) fun k1 H6 a6 b6 d6 x6 => ?_
    replace d6 := Draw.hid d5 d6
    walk_at "zz"
    refine law_next_c (d6.same hid_le) (by decide) (by decide) fun k2 H7 a7 b7 d7 x7 => ?_
    replace d7 := Draw.hid d6 d7
    have x47 := x5.trans (x6.trans x7)
    have eC7 := x47.lk eC4 NotSt.refs
    have rm7 := dpsS (gh_exd (M := C :: M) x47) rm4
    have x07 := (x3.trans (ExD.of s4)).trans x47
    walk_at "zz"
    rename_i tt htt
    have s8 : Same H7 (upd H7 tt (.tup [.str nm, .int (k1 - 1), .int k2])) := Same.new htt (Same.refl _)
    have ntt : tt ∉ C :: M := fun z => by
      rcases List.mem_cons.mp z with rfl | z
      · rw [htt] at eC7; cases eC7
      · exact ((D.oc.exd x07).occ.no htt) z
    have dtt : Dp K (gh (upd H7 tt (.tup [.str nm, .int (k1 - 1), .int k2])) (C :: M)) (.ref tt) (cutD (nm, k1 - 1, k2)) := .tup (SqT.of (gh_lk ntt upd_same NotSt.tup)) (.cons (.str _) (.cons (.int _) (.cons (.int _) .nil)))
    have x08 := x07.trans (ExD.of s8)
    have d8 := d7.same (hid_same (ps := M) s8)
    have eC8 := s8 _ _ eC7
    have rm8 := dpsS (gh_same (M := C :: M) s8) rm7
    generalize upd H7 tt (.tup [.str nm, .int (k1 - 1), .int k2]) = H8 at *
    refine z_app eC8 (by rw [List.length_map]; omega) ?_
    refine ⟨_, us ++ [tt], cs ++ [(nm, k1 - 1, k2)], rfl, ExD.new hC x08, ?_, by rw [upd_same, ref_app], ?_, by simp [lcs], fun x hx => ?_⟩
    · exact Draw.hid d8 (Draw.put nC1 nC2 (d8.same hid_le))
    · rw [gh_put (by simp), ← ref_app, List.map_append]
      exact dpsApp rm8 dtt
    · rcases List.mem_append.mp hx with hx | hx
      · exact pcs x hx
      · rw [List.mem_singleton.mp hx]; exact a7
  · rintro σ H3 ⟨w6, us, cs, rfl, x3, d3, e3, rm3, lcs, pcs⟩
    have D3 := D.exd x3
    have tm3 := tm.exd x3
    obtain ⟨okd, dx, ed⟩ := D3.ins
    have lus := dpsLen rm3
    rw [List.length_map, List.length_map] at lus
    walk_at "zz"
    refine ⟨_, _, _, rfl, ed, rfl, ?_⟩
    walk_at "zz"
    rename_i sl hsl
    have s4 : Same H3 (upd H3 sl (.lst (us.map V.ref))) := Same.new hsl (Same.refl _)
    have D4 := D3.same s4
    have tm4 := tm3.same s4
    have d4 := d3.same (hid_same (ps := M) s4)
    have rm4 := dpsS (Same.trans (gh_hid (hid_sub fun a h => List.mem_cons_of_mem _ h)) (gh_same (M := M) s4)) rm3
    have dcu : Dp K (gh (upd H3 sl (.lst (us.map V.ref))) M) (.ref sl) (.list (cs.map cutD)) := .lst (SqL.of (gh_lk (D3.oc.occ.no hsl) upd_same NotSt.refs)) rm4
    have dC : Dp K (gh (upd H3 sl (.lst (us.map V.ref))) M) (.ref C) (.list (cs.map cutD)) := .lst (SqL.of (gh_lk nCM (s4 _ _ e3) NotSt.refs)) rm4
    generalize upd H3 sl (.lst (us.map V.ref)) = H4 at *
    refine ⟨d, t, sl, M, qs, F, cs, rfl, D4, dcu, by omega, pcs, sz.bd (by omega), fun H5 M5 qs5 mv D5 => ?_⟩
    have tm5 := tm4.disk mv
    have d5 := d4.same mv.same
    walk_at "zz"
    refine ⟨tb, C, d, t, M5, ps, qs5, F.map (crashF cs), tab F, cs, rfl, tm5, D5, dpS mv.gh dC, by omega, pcs, by rw [tab_len]; have := sz.1; omega, fun r hr => ⟨tab_ne r hr, by have := tab_sz sz r hr; omega⟩, fun p' ps' H6 M6 mv6 tm6 D6 => ?_⟩
    rw [crT_tab] at tm6
    walk_at "zz"
    exact q _ _ _ _ _ ⟨M6, ps', qs5, d5.same mv6.same, D6, tm6, crash_nodup nd, abc.crash, sz.crash⟩
theorem lawB {M ps : List Addr} {qs : List (Addr × Addr)} {F0 : List FS} (d0 : Draw (hid H M) p l) (D : DiskIn K c H d M t qs F) (tm : TbM H M tb ps (tab F0)) (e0 : F = F0.map syncF) (nd : (F.map (·.1)).Nodup) (abc : AbcF F) (sz : SzF j F) (hj : j ≤ 40) (lF : ∀ f ∈ F0, f.2.2.length ≤ 1000) (q : ∀ H' tb', LSt K c p l d t H' tb' F j → D0.nx [some (.ref a), some (.ref p), some (.ref d), some (.ref tb'), v4, v5, v6, v7, v8, v9, v10] H') : T_lawB K c D0 [some (.ref a), some (.ref p), some (.ref d), some (.ref tb), v4, v5, v6, v7, v8, v9, v10] H := by
  have lps := tm.len
  have lF0 : F0.length ≤ 40 := by have := sz.1; rw [e0, List.length_map] at this; omega
  rw [tab_len] at lps
  unfold T_lawB
  walk_at "zz"
  refine z_lcl (SqL.of tm.tb) (fun C i H' => H C = none ∧ ∃ (Mi psi : List Addr), Mv H M H' Mi ∧ C ∈ Mi ∧ H' C = some (.lst (psi.map V.ref)) ∧ All2 (RowM H' (gh H' Mi)) psi (((tab F0).take i).map syT) ∧ psi.Nodup ∧ (∀ a ∈ psi, a ∈ Mi) ∧ TbM H' Mi tb ps (tab F0) ∧ DiskIn K c H' d Mi t qs F) (fun C hC => ?_) (fun C i H' _ _ z => ?_) ?_ ?_
  · have s0 : Same H (upd H C (.lst [])) := Same.new hC (Same.refl _)
    have h4 : C ≠ tb := fun z => by rw [z, tm.tb] at hC; cases hC
    refine ⟨hC, C :: M, [], Mv.new hC, by simp, upd_same, .nil, List.nodup_nil, fun _ h => (nomatch h), tm.mv (fun a _ o e => s0 _ _ e) (fun o e => s0 _ _ e) (gh_of hC s0) (fun a h => List.mem_cons_of_mem _ h) (fun z => ?_), D.extN hC (NotSt.refs (ps := []))⟩
    rcases List.mem_cons.mp z with z | z
    · exact h4 z.symm
    · exact tm.np z
  · obtain ⟨_, Mi, psi, _, _, _, _, _, _, tmi, _⟩ := z
    exact SqL.of tmi.tb
  · rintro cr i x H1 hC hx ⟨hcr, Mi, psi, mvi, mcr, ecr1, rmi, ndi, memi, tmi, Di⟩
    have ncr := D.oc.occ.no hcr
    have h1 : cr ≠ d := fun z => ncr (by rw [z]; exact D.md)
    have h2 : cr ≠ t := fun z => ncr (by rw [z]; exact D.mt)
    have h3 : ∀ q ∈ qs, cr ≠ q.1 ∧ cr ≠ q.2 := fun q hq => ⟨fun z => ncr (by rw [z]; exact (D.mq q hq).1), fun z => ncr (by rw [z]; exact (D.mq q hq).2)⟩
    have h4 : cr ≠ tb := fun z => by rw [z, tm.tb] at hcr; cases hcr
    have h5 : ∀ a ∈ ps, cr ≠ a := fun a ha z => ncr (by rw [z]; exact tm.mem a ha)
    obtain ⟨hi, rfl⟩ := map_ref hx
    have hi2 : i < F0.length := by omega
    have ra := tmi.at (i := i) (by rw [tab_len]; exact hi2)
    have tk := take_dS dTR (l := tab F0) (i := i) (by rw [tab_len]; exact hi2)
    rw [tab_at hi2] at ra tk
    have lf := lF _ (getD_mem' dFS hi2)
    have lpi := All2.len rmi
    rw [List.length_map, List.length_take] at lpi
    generalize F0.getD i dFS = f at *
    obtain ⟨s, ms, ea, gs, os⟩ := ra
    replace os : All2 (OAt (gh H1 Mi)) ms (stl f) := os
    have lms := All2.len os
    have l0 : 0 < (stl f).length := by unfold stl; simp
    have l1 : (stl f).length = f.2.2.length + 1 := by unfold stl; simp
    have lo := last_o os l0
    have es := gh_le _ _ gs
    generalize ps.getD i 0 = b at *
    replace ea : H1 b = some (.lst [.str f.1, .non, .ref s]) := ea
    refine z_gName ⟨rfl, ?_⟩
    walk_at "zz"
    rename_i sl hsl a1 ha1
    rw [cut_last (by omega)] at *
    generalize ms.getD (ms.length - 1) .non = u at *
    have s5 : Same H1 (upd H1 sl (.lst [u])) := Same.new hsl (Same.refl _)
    have e5 : upd H1 sl (.lst [u]) sl = some (.lst [u]) := upd_same
    have nst := Di.oc.occ.no hsl
    generalize upd H1 sl (.lst [u]) = H5 at *
    have o5 := lo.same (gh_same (M := Mi) s5)
    have na1 := (Di.oc.occ.same s5).no ha1
    have nst1 : sl ∉ a1 :: Mi := fun z => by
      rcases List.mem_cons.mp z with z | z
      · rw [z, ha1] at e5; cases e5
      · exact nst z
    have D6 := (Di.same s5).extN (o := .lst [.str f.1, .non, .ref sl]) ha1 NotSt.row
    have s6 : Same H5 (upd H5 a1 (.lst [.str f.1, .non, .ref sl])) := Same.new ha1 (Same.refl _)
    have gg6 : Same (gh H5 Mi) (gh (upd H5 a1 (.lst [.str f.1, .non, .ref sl])) (a1 :: Mi)) := gh_of ha1 s6
    have tm6 : TbM (upd H5 a1 (.lst [.str f.1, .non, .ref sl])) (a1 :: Mi) tb ps (tab F0) := (tmi.same s5).mv (fun a _ o e => s6 _ _ e) (fun o e => s6 _ _ e) gg6 (fun a h => List.mem_cons_of_mem _ h) (fun z => by
      rcases List.mem_cons.mp z with z | z
      · have := (tmi.same s5).tb; rw [z, ha1] at this; cases this
      · exact tmi.np z)
    have e6 : upd H5 a1 (.lst [.str f.1, .non, .ref sl]) a1 = some (.lst [.str f.1, .non, .ref sl]) := upd_same
    have g6 : gh (upd H5 a1 (.lst [.str f.1, .non, .ref sl])) (a1 :: Mi) sl = some (.lst [u]) := gh_lk nst1 (s6 _ _ e5) (OAt.notSt (All2.cons o5 .nil))
    have mv6 : Mv H5 Mi (upd H5 a1 (.lst [.str f.1, .non, .ref sl])) (a1 :: Mi) := Mv.new ha1
    have ncr1 : a1 ≠ cr := fun z => na1 (by rw [z]; exact mcr)
    have rm6 := All2.imp (fun _ _ h => RowM.same h (fun o e => s6 _ _ (s5 _ _ e)) (Same.trans (gh_same s5) gg6)) rmi
    replace o5 := OAt.same gg6 o5
    have ecr6 := s6 _ _ (s5 _ _ ecr1)
    generalize upd H5 a1 (.lst [.str f.1, .non, .ref sl]) = H6 at *
    refine z_accum ecr6 (by rw [List.length_map]; omega) ?_
    have eg : gh (upd H6 cr (.lst (psi.map V.ref ++ [.ref a1]))) (a1 :: Mi) = gh H6 (a1 :: Mi) := gh_put (by simp [mcr])
    refine ⟨hcr, a1 :: Mi, psi ++ [a1], mvi.trans ((Mv.of s5).trans (mv6.trans (Mv.put (by simp [mcr])))), by simp [mcr], by rw [upd_same, ref_app], ?_, ?_, ?_, ?_, D6.putN h1 h2 h3 (by simp [mcr]) (by rw [ref_app]; exact NotSt.refs)⟩
    · rw [eg, tk, List.map_append]
      refine (All2.imp (fun _ _ h => RowM.same h (fun o e => lk_ne (h.neRefs ecr6) e) (Same.refl _)) rm6).app ?_
      exact ⟨sl, [u], lk_ne ncr1 e6, g6, .cons o5 .nil⟩
    · exact List.nodup_append.mpr ⟨ndi, by simp, fun a ha b hb => by rw [List.mem_singleton.mp hb]; exact fun z => na1 (by rw [← z]; exact memi a ha)⟩
    · intro x hx
      rcases List.mem_append.mp hx with hx | hx
      · exact List.mem_cons_of_mem _ (memi x hx)
      · rw [List.mem_singleton.mp hx]; simp
    · exact tm6.mv (fun x hx o e => lk_ne (h5 x hx).symm e) (fun o e => lk_ne h4.symm e) (by rw [eg]; exact Same.refl _) (fun _ h => h) tm6.np
  · rintro cr H1 hC ⟨hcr, Mi, psi, mvi, mcr, ecr1, rmi, ndi, memi, tmi, Di⟩
    have ncr := D.oc.occ.no hcr
    have h1 : cr ≠ d := fun z => ncr (by rw [z]; exact D.md)
    have h2 : cr ≠ t := fun z => ncr (by rw [z]; exact D.mt)
    have h3 : ∀ q ∈ qs, cr ≠ q.1 ∧ cr ≠ q.2 := fun q hq => ⟨fun z => ncr (by rw [z]; exact (D.mq q hq).1), fun z => ncr (by rw [z]; exact (D.mq q hq).2)⟩
    rw [List.length_map, lps, ← tab_len, List.take_length, sync_tab, ← e0] at rmi
    walk_at "zz"
    have sub : ∀ a ∈ Mi.filter (fun a => decide (a ≠ cr)), a ∈ Mi := fun a ha => (List.mem_filter.mp ha).1
    have keep : ∀ a, a ∈ Mi → a ≠ cr → a ∈ Mi.filter (fun a => decide (a ≠ cr)) := fun a ha hn => List.mem_filter.mpr ⟨ha, by simpa using hn⟩
    refine q H1 cr ⟨Mi.filter fun a => decide (a ≠ cr), psi, qs, d0.same (Same.trans mvi.same (hid_sub sub)), Di.less sub (keep _ Di.md h1.symm) (keep _ Di.mt h2.symm) (fun q hq => ⟨keep _ (Di.mq q hq).1 (h3 q hq).1.symm, keep _ (Di.mq q hq).2 (h3 q hq).2.symm⟩),
      ⟨ecr1, All2.imp (fun _ _ h => RowM.same h (fun _ e => e) (gh_hid (hid_sub sub))) rmi, ndi, fun a ha => keep a (memi a ha) (fun z => ?_), fun z => by have := (List.mem_filter.mp z).2; simp at this⟩, nd, abc, sz⟩
    obtain ⟨b, _, hb⟩ := All2.mem rmi ha
    exact hb.neRefs ecr1 z
theorem lawC (h : LSt K c p l d t H tb F j) (hj : j ≤ 40) (q : ∀ H' w9 w10, LSt K c p l d t H' tb F j → D0.nx [some (.ref a), some (.ref p), some (.ref d), some (.ref tb), v4, v5, v6, v7, v8, w9, w10] H') : T_lawC K c D0 [some (.ref a), some (.ref p), some (.ref d), some (.ref tb), v4, v5, v6, v7, v8, v9, v10] H := by
  obtain ⟨M, ps, qs, d0, D, tm, nd, abc, sz⟩ := h
  have lps := tm.len
  rw [tab_len] at lps
  have lF := sz.1
  unfold T_lawC
  walk_at "zz"
  rename_i C hC
  have s0 : Same H (upd H C (.lst [])) := Same.new hC (Same.refl _)
  have e0 : upd H C (.lst []) C = some (.lst []) := upd_same
  generalize upd H C (.lst []) = H0 at *
  refine z_forL (SqL.of (s0 _ _ tm.tb)) (fun i σ H' => ∃ (w9 : Option V) (acc : List V), σ = [some (.ref a), some (.ref p), some (.ref d), some (.ref tb), v4, v5, v6, v7, v8, w9, some (.ref C)] ∧ Same H H' ∧ H' C = some (.lst acc) ∧ DpAll K (hid H' [C]) acc ((filesZ (F.take i)).map flD))
    ⟨_, [], rfl, s0, e0, .nil⟩ (fun i σ' H' _ z => by
      obtain ⟨_, _, _, s1, _⟩ := z
      exact SqL.of (s1 _ _ tm.tb)) ?_ ?_
  · rintro i x σ H1 hx ⟨w9, acc, rfl, s1, eC, rm⟩
    obtain ⟨hi, rfl⟩ := map_ref hx
    have hi2 : i < F.length := by omega
    have ra := tm.at (i := i) (by rw [tab_len]; exact hi2)
    rw [tab_at hi2] at ra
    have ft := filesZ_take hi2
    have lac := dpsLen rm
    rw [List.length_map] at lac
    have ln : (filesZ (F.take i)).length ≤ 1000 := by
      unfold filesZ
      refine Nat.le_trans (List.length_filter_le _ _) ?_
      rw [List.length_take]; omega
    have lf := (sz.2 _ (getD_mem' dFS hi2)).1
    generalize F.getD i dFS = f at *
    obtain ⟨s, ms, ea, gs, os⟩ := ra
    replace os : All2 (OAt (gh H M)) ms (stl f) := os
    have lms := All2.len os
    have l0 : 0 < (stl f).length := by unfold stl; simp
    have l1 : (stl f).length = f.2.2.length + 1 := by unfold stl; simp
    have lo := last_o os l0
    rw [last_stl] at lo
    have a0 : atI ms 0 = some (ms.getD 0 .non) := by
      unfold atI; rw [ix_at (by omega) (by omega)]
      show ms[(0 : Int).toNat]? = _
      rw [List.getD_eq_getElem?_getD, show (0 : Int).toNat = 0 from rfl, List.getElem?_eq_getElem (by omega)]; rfl
    have o0 : OAt (gh H M) (ms.getD 0 .non) f.2.1 := All2.atD os V.non none l0
    have aL := last_ix (ms := ms) (by omega)
    have es := s1 _ _ (gh_le _ _ gs)
    generalize ps.getD i 0 = b at *
    replace ea : H b = some (.lst [.str f.1, .non, .ref s]) := ea
    have ea1 := s1 _ _ ea
    have on0 := o0.non
    have onL := lo.non
    generalize ms.getD 0 .non = u0 at *
    generalize ms.getD (ms.length - 1) .non = uL at *
    have hs1 : Same H (hid H1 [C]) := hidS1 hC s1
    have fin : (D1 : Ends) → D1.nx = D1.nx → True := fun _ _ => trivial
    unfold T_law_b2
    walk_at "zz"
    try refine z_ix (.inl (SqL.of es)) a0 ?_
    try walk_at "zz"
    rw [on0]
    have put : ∀ (tt : Addr) (_ : H1 tt = none), f.2.1 ≠ none ∨ curZ f ≠ none → ∃ acc', acc ++ [.ref tt] = acc' ∧ DpAll K (hid (upd (upd H1 tt (.tup [.str f.1, u0, uL])) C (.lst (acc ++ [.ref tt]))) [C]) acc' ((filesZ (F.take (i + 1))).map flD) := fun tt htt hz => by
      refine ⟨_, rfl, ?_⟩
      have c2 : (!decide (curZ f = none) || !decide (f.2.1 = none)) = true := by
        rcases hz with hz | hz
        · rw [decide_eq_false hz]; simp
        · rw [decide_eq_false hz]; simp
      have ntt : tt ∉ [C] := fun z => by
        rw [List.mem_singleton] at z
        rw [z, eC] at htt; cases htt
      rw [if_pos c2] at ft
      rw [hid_put (by simp), ft, List.map_append]
      have s8 : Same H1 (upd H1 tt (.tup [.str f.1, u0, uL])) := Same.new htt (Same.refl _)
      have hs8 := Same.trans hs1 (hid_same (ps := [C]) s8)
      refine dpsApp (dpsS (hid_same s8) rm) (.tup (SqT.of (hid_lk ntt upd_same)) (.cons (.str _) (.cons (dpS hs8 (o0.same gh_le).dp) (.cons (dpS hs8 (lo.same gh_le).dp) .nil))))
    by_cases c1 : f.2.1 = none
    · rw [decide_eq_true c1]
      walk_at "zx"
      try refine z_ix (.inl (SqL.of es)) aL ?_
      try walk_at "zx"
      rw [onL]
      by_cases c2 : curZ f = none
      · rw [decide_eq_true c2]
        walk_at "zx"
        rw [decide_eq_true c1, decide_eq_true c2] at ft
        refine ⟨_, acc, rfl, s1, eC, ?_⟩
        rw [ft]; simpa using rm
      · rw [decide_eq_false c2]
        walk_at "zx"
        try refine z_ix (.inl (SqL.of es)) a0 ?_
        try walk_at "zx"
        try refine z_ix (.inl (SqL.of es)) aL ?_
        try walk_at "zx"
        rename_i tt htt
        obtain ⟨acc', e', r'⟩ := put tt htt (.inr c2)
        refine z_app (lk_new htt eC) (by omega) ?_
        exact ⟨_, _, rfl, Same.put hC (Same.new htt s1), upd_same, by rw [← e'] at r'; exact r'⟩
    · rw [decide_eq_false c1]
      walk_at "zx"
      try refine z_ix (.inl (SqL.of es)) a0 ?_
      try walk_at "zx"
      try refine z_ix (.inl (SqL.of es)) aL ?_
      try walk_at "zx"
      rename_i tt htt
      obtain ⟨acc', e', r'⟩ := put tt htt (.inl c1)
      refine z_app (lk_new htt eC) (by omega) ?_
      exact ⟨_, _, rfl, Same.put hC (Same.new htt s1), upd_same, by rw [← e'] at r'; exact r'⟩
  · rintro σ H1 ⟨w9, acc, rfl, s1, eC, rm⟩
    rw [List.length_map, lps, List.take_length] at rm
    have D1 := D.same s1
    obtain ⟨okd, dx, ed⟩ := D1.ins
    walk_at "zz"
    refine ⟨_, _, _, rfl, ed, rfl, ?_⟩
    walk_at "zz"
    refine ⟨d, t, M, qs, F, rfl, D1, sz.bd (by omega), fun r H2 hr s2 dr => ?_⟩
    walk_at "zz"
    have lay : lay1 3 (.list ((filesZ F).map flD)) := lay1.list fun d hd => by
      obtain ⟨f, hf, rfl⟩ := List.mem_map.mp hd
      refine lay1.tuple fun d hd => ?_
      rcases List.mem_cons.mp hd with rfl | hd
      · exact (abc f (List.mem_filter.mp hf).1).lay
      rcases List.mem_cons.mp hd with rfl | hd
      · exact oD_lay
      · rw [List.mem_singleton.mp hd]; exact oD_lay
    refine z_neD (dpS gh_le dr) (dpS s2 (dpO0 eC rm)) (lay.sh (by decide)) (lay.sh (by decide)) ?_
    rw [SeqAt.eqv_refl _ lay.1]
    walk_at "zx"
    have s12 := Same.trans s1 s2
    exact q _ _ _ ⟨M, ps, qs, d0.same (hid_same s12), D.same s12, tm.same s12, nd, abc, sz⟩
end
theorem r_law {K : PySem.W.Frag} {c : CEnv} {a : Addr} {ns : List Int} {H : Hp} {D : Ends} (hS : SqL K H a (ns.map V.int)) (hl : ns.length ≤ 63) (q : ∀ H', D.rt (.bl true) H') : T_law K c D [some (.ref a), none, none, none, none, none, none, none, none, none, none] H := by
  unfold T_law
  walk_at "zz"
  rename_i l hl1 p hp
  have d0 := Draw.start hl1 hp
  generalize upd (upd H l (.lst (ns.map V.int))) p (.lst [.ref l, .int 0, .int 0]) = H0 at *
  intro okd d dx hd hdx ne
  have sg : Same H0 (upd (upd H0 dx (.own d)) d (.ins (c.cls "Disk") dx [])) := Same.put hd (Same.new hdx (Same.refl _))
  refine ⟨d, dx, rfl, okd, upd_same, fun t H1 ht s1 D1 => ?_⟩
  have d1 : Draw (hid H1 [t, d]) p l := d0.same (Same.trans (hidS1 hd sg) s1)
  refine ⟨rfl, ?_⟩
  clear s1 sg okd d0
  walk_at "zz"
  rename_i tb htb
  have s2 : Same H1 (upd H1 tb (.lst [])) := Same.new htb (Same.refl _)
  have L0 : LSt K c p l d t (upd H1 tb (.lst [])) tb [] 0 := ⟨[t, d], [], [], d1.same (hid_same s2), D1.same s2, ⟨upd_same, .nil, List.nodup_nil, fun _ h => (nomatch h), D1.oc.occ.no htb⟩, List.nodup_nil, fun _ h => (nomatch h), ⟨Nat.le_refl _, fun f h => nomatch h⟩⟩
  generalize upd H1 tb (.lst []) = H2 at *
  refine z_rng1 (by omega) ?_ (by omega)
  refine z_rng (fun j σ H' => ∃ (tb' : Addr) (F : List FS) (v4 v5 v6 v7 v8 v9 v10 : Option V), σ = [some (.ref a), some (.ref p), some (.ref d), some (.ref tb'), v4, v5, v6, v7, v8, v9, v10] ∧ LSt K c p l d t H' tb' F j)
    ⟨tb, [], _, _, _, _, _, _, _, rfl, L0⟩ ?_ ?_
  · rintro j σ H3 hj ⟨tb3, F, v4, v5, v6, v7, v8, v9, v10, rfl, L3⟩
    have hj40 : j ≤ 40 := by omega
    rw [b3_eq]
    unfold T_law_b3S
    walk_at "zz"
    refine z_cut (fun σ' H' => ∃ (tb' : Addr) (F : List FS) (v4 v5 v6 v7 v8 v9 v10 : Option V), σ' = [some (.ref a), some (.ref p), some (.ref d), some (.ref tb'), v4, v5, v6, v7, v8, v9, v10] ∧ LSt K c p l d t H' tb' F j) ?_ ?_
    · obtain ⟨M, ps, qs, d3, D3, tm3, nd, abc, sz⟩ := L3
      walk_at "zz"
      refine law_next_c (d3.same hid_le) (by decide) (by decide) fun k0 H4 a4 b4 d4 x4 => ?_
      replace d4 := Draw.hid d3 d4
      have L4 : LSt K c p l d t H4 tb3 F j := ⟨M, ps, qs, d4, D3.exd x4, tm3.exd x4, nd, abc, sz⟩
      walk_at "zz"
      by_cases c0 : k0 = 0
      · rw [decide_eq_true c0]
        exact lawA L4 hj40 fun H' tb' F' w5 w6 L => ⟨_, _, _, _, _, _, _, _, _, rfl, L⟩
      · rw [decide_eq_false c0]
        walk_at "zx"
        exact ⟨_, _, _, _, _, _, _, _, _, rfl, L4⟩
    · rintro σ' H4 ⟨tb4, F4, v4, v5, v6, v7, v8, v9, v10, rfl, M, ps, qs, d4, D4, tm4, nd, abc, sz⟩
      walk_at "zz"
      refine ⟨p, l, d, t, tb4, M, ps, qs, F4, j, rfl, d4, D4, tm4, nd, abc, sz, by omega, fun r tb5 sy H5 M5 ps5 qs5 F5 T5 er d5 D5 tm5 hT nd5 abc5 sz5 => ?_⟩
      refine z_gTup3 (SqT.of er) ?_
      walk_at "zz"
      refine z_cut (fun σ' H' => ∃ (tb' : Addr) (v4 v5 v6 v7 v8 v9 v10 : Option V), σ' = [some (.ref a), some (.ref p), some (.ref d), some (.ref tb'), v4, v5, v6, v7, v8, v9, v10] ∧ LSt K c p l d t H' tb' F5 (j + 1)) ?_ ?_
      · walk_at "zz"
        rcases hT with ⟨rfl, rfl⟩ | ⟨rfl, F0, rfl, e0, bd0⟩
        · walk_at "zx"
          exact ⟨_, _, _, _, _, _, _, _, rfl, M5, ps5, qs5, d5, D5, tm5, nd5, abc5, sz5⟩
        · walk_at "zx"
          exact lawB d5 D5 tm5 e0 nd5 abc5 sz5 (by omega) bd0.2 fun H' tb' L => ⟨_, _, _, _, _, _, _, _, rfl, L⟩
      · rintro σ' H6 ⟨tb6, v4, v5, v6, v7, v8, v9, v10, rfl, L6⟩
        exact lawC L6 (by omega) fun H' w9 w10 L => ⟨_, _, _, _, _, _, _, _, _, rfl, L⟩
  · rintro σ H3 ⟨tb3, F, v4, v5, v6, v7, v8, v9, v10, rfl, L3⟩
    walk_at "zz"
    exact q _
theorem w_law {K : PySem.W.Frag} {c : CEnv} : Wd (T_law K c) N_law 1 (sp_law K) := fun vs H Q E h => by
  obtain ⟨a, ns, rfl, hS, hl, q⟩ := h
  exact ⟨rfl, r_law hS hl q⟩
/-! ### the text by places, and its defs, each once -/
def topS (i : Nat) : Stmt := PySem.Challenge.pw_surenear_k38_disks_do_what_they_are_aske.main.body.getD i (.Pass ⟨0, 0, 0, 0⟩)
section
variable {P : Program} {w : World} {K : PySem.W.Frag} {mg : Str → Option Value} {base : Heap} {c : CEnv}
abbrev s_Disk_init : Stmt := (inClass (topS 9) 0)
theorem sc_Disk_init : FnScope N_Disk_init ["self"] (defScope s_Disk_init) := ⟨rfl, rfl, rfl, by decide +kernel, rfl, by decide +kernel, by decide +kernel⟩
theorem ok_Disk_init {f : Addr} {fd : FuncData} (F : Fun K "__init__" "Disk.__init__" s_Disk_init f fd) : FnOk P w K mg base CX0 1 f fd ["self"] (sp_Disk_init K c) := by
  have sc := sc_Disk_init
  refine F.ok sc_Disk_init (fun vs H Q E h => ((w_Disk_init (c := c)) vs H Q E h).1) (fun cdv A outer s H vs Q E hr h => ⟨T_Disk_init K, ?_, ((w_Disk_init (c := c)) vs H Q E h).2⟩)
  exact (pss_one (ps_fld (pv 0) (pe_lst pa_nil) rfl))
abbrev s_law_row : Stmt := (topS 11)
theorem sc_law_row : FnScope N_law_row ["_law_script", "_law_k"] (defScope s_law_row) := ⟨rfl, rfl, rfl, by decide +kernel, rfl, by decide +kernel, by decide +kernel⟩
theorem ok_law_row (m_len : mg "len" = none) (m_int : mg "int" = none) {f : Addr} {fd : FuncData} (F : Fun K "_law_row" "_law_row" s_law_row f fd) : FnOk P w K mg base CX0 1 f fd ["_law_script", "_law_k"] (sp_law_row K) := by
  have sc := sc_law_row
  refine F.ok sc_law_row (fun vs H Q E h => ((w_law_row) vs H Q E h).1) (fun cdv A outer s H vs Q E hr h => ⟨T_law_row K, ?_, ((w_law_row) vs H Q E h).2⟩)
  exact (pss_cons (ps_set (i := 2) sc.nd rfl (by first | exact Or.inl rfl | exact Or.inr rfl) pe_int)
      (pss_cut (ps_if (pt_cmpR (op_uLt hr.units) (pv 1) (pe_callB call_uLen (by rfl) m_len (by decide +kernel) (pa_cons (pv 0) pa_nil)) (nomark _)) (pss_one (ps_set (i := 2) sc.nd rfl (by first | exact Or.inl rfl | exact Or.inr rfl) (pe_ix ix_uIx (pv 0) (pv 1) (fun _ _ => rfl)))) pss_nil)
      (pss_cut (ps_if (pt_cmpR (op_uLt hr.units) (pv 2) pe_int (nomark _)) (pss_one (ps_set (i := 2) sc.nd rfl (by first | exact Or.inl rfl | exact Or.inr rfl) (pe_op op_uSub (pe_op op_uMul (pe_un un_uNeg pe_int) (pv 2)) pe_int))) pss_nil)
      (pss_cut (ps_if (pt_cmpR (op_uLt hr.units) (pv 2) (pe_op op_uPow pe_int pe_int) (nomark _)) (pss_cons (ps_set (i := 3) sc.nd rfl (by first | exact Or.inl rfl | exact Or.inr rfl) (pe_op op_uMod (pe_callTy call_uInt (by rfl) m_int (by decide +kernel) (pa_cons (pe_op op_uAdd (pe_op op_uAdd (pe_op op_uMul (pv 2) pe_int) (pe_op op_uMul (pv 1) pe_int)) pe_int) pa_nil)) pe_int))
      (pss_cons (ps_set (i := 4) sc.nd rfl (by first | exact Or.inl rfl | exact Or.inr rfl) (pe_op op_uMod (pe_callTy call_uInt (by rfl) m_int (by decide +kernel) (pa_cons (pe_op op_uAdd (pe_op op_uAdd (pe_op op_uAdd (pe_op op_uMul (pv 3) pe_int) (pe_op op_uMul (pv 2) pe_int)) (pv 1)) pe_int) pa_nil)) pe_int))
      (pss_cons (ps_set (i := 5) sc.nd rfl (by first | exact Or.inl rfl | exact Or.inr rfl) (pe_op op_uMod (pe_callTy call_uInt (by rfl) m_int (by decide +kernel) (pa_cons (pe_op op_uAdd (pe_op op_uAdd (pe_op op_uMul (pv 4) pe_int) (pe_op op_uMul (pv 3) (pv 4))) pe_int) pa_nil)) pe_int))
      (pss_one (ps_set (i := 2) sc.nd rfl (by first | exact Or.inl rfl | exact Or.inr rfl) (pe_op op_uAdd (pe_op op_uAdd (pv 3) (pe_op op_uMul (pv 4) pe_int)) (pe_op op_uMul (pv 5) (pe_op op_uPow pe_int pe_int)))))))) pss_nil)
      (pss_one (ps_ret (pv 2)))))))
abbrev s_law_next : Stmt := (topS 12)
theorem sc_law_next : FnScope N_law_next ["_law_state", "_law_many"] (defScope s_law_next) := ⟨rfl, rfl, rfl, by decide +kernel, rfl, by decide +kernel, by decide +kernel⟩
theorem ok_law_next (D_law_row : Dfn P w K mg base 1 "_law_row" ["_law_script", "_law_k"] (sp_law_row K)) (m_int : mg "int" = none) {f : Addr} {fd : FuncData} (F : Fun K "_law_next" "_law_next" s_law_next f fd) : FnOk P w K mg base CX0 2 f fd ["_law_state", "_law_many"] (sp_law_next K) := by
  have sc := sc_law_next
  refine F.ok sc_law_next (fun vs H Q E h => ((w_law_next) vs H Q E h).1) (fun cdv A outer s H vs Q E hr h => ⟨T_law_next K, ?_, ((w_law_next) vs H Q E h).2⟩)
  exact (pss_cut (ps_if (pt_cmpR (op_uLt hr.units) (pe_ix ix_uIx (pv 0) pe_int (fun _ _ => rfl)) (pv 1) (nomark _)) (pss_cons (ps_asg (z_call D_law_row (hr.mono (by decide)) (by rfl) (pa_cons (pe_ix ix_uIx (pv 0) pe_int (fun _ _ => rfl)) (pa_cons (pe_ix ix_uIx (pv 0) pe_int (fun _ _ => rfl)) pa_nil))) (pg_sub (pv 0) pe_int set_list))
      (pss_one (ps_asg (pe_op op_uAdd (pe_ix ix_uIx (pv 0) pe_int (fun _ _ => rfl)) pe_int) (pg_sub (pv 0) pe_int set_list)))) pss_nil)
      (pss_cons (ps_set (i := 2) sc.nd rfl (by first | exact Or.inl rfl | exact Or.inr rfl) (pe_op op_uMod (pe_callTy call_uInt (by rfl) m_int (by decide +kernel) (pa_cons (pe_ix ix_uIx (pv 0) pe_int (fun _ _ => rfl)) pa_nil)) (pv 1)))
      (pss_cons (ps_asg (pe_op op_uDiv (pe_ix ix_uIx (pv 0) pe_int (fun _ _ => rfl)) (pv 1)) (pg_sub (pv 0) pe_int set_list))
      (pss_one (ps_ret (pv 2))))))
abbrev s_cut_of : Stmt := (topS 8)
theorem sc_cut_of : FnScope N_cut_of ["cuts", "name"] (defScope s_cut_of) := ⟨rfl, rfl, rfl, by decide +kernel, rfl, by decide +kernel, by decide +kernel⟩
theorem ok_cut_of {f : Addr} {fd : FuncData} (F : Fun K "cut_of" "cut_of" s_cut_of f fd) : FnOk P w K mg base CX0 1 f fd ["cuts", "name"] (sp_cut_of K) := by
  have sc := sc_cut_of
  refine F.ok sc_cut_of (fun vs H Q E h => ((w_cut_of) vs H Q E h).1) (fun cdv A outer s H vs Q E hr h => ⟨T_cut_of K, ?_, ((w_cut_of) vs H Q E h).2⟩)
  exact (pss_cons (ps_for PassesOwn.never rfl (pi_sq (pv 0)) (pg_tup rfl (pgs_cons (pg_name (i := 2) sc.nd rfl (by first | exact Or.inl rfl | exact Or.inr rfl)) (pgs_cons (pg_name (i := 3) sc.nd rfl (by first | exact Or.inl rfl | exact Or.inr rfl)) (pgs_cons (pg_name (i := 4) sc.nd rfl (by first | exact Or.inl rfl | exact Or.inr rfl)) pgs_nil)))) (pss_one (ps_if (pt_cmpR (op_uEq hr.units) (pv 2) (pv 1) (nomark _)) (pss_one (ps_ret (pe_tup (pa_cons (pv 3) (pa_cons (pv 4) pa_nil))))) pss_nil)))
      (pss_one (ps_ret pe_non)))
abbrev s_File_current : Stmt := (inClass (topS 5) 1)
theorem sc_File_current : FnScope N_File_current ["self"] (defScope s_File_current) := ⟨rfl, rfl, rfl, by decide +kernel, rfl, by decide +kernel, by decide +kernel⟩
theorem ok_File_current (m_len : mg "len" = none) {f : Addr} {fd : FuncData} (F : Fun K "current" "File.current" s_File_current f fd) : FnOk P w K mg base CX0 1 f fd ["self"] (sp_File_current K c) := by
  have sc := sc_File_current
  refine F.ok sc_File_current (fun vs H Q E h => ((w_File_current (c := c)) vs H Q E h).1) (fun cdv A outer s H vs Q E hr h => ⟨T_File_current K, ?_, ((w_File_current (c := c)) vs H Q E h).2⟩)
  exact (pss_one (ps_ret (pe_ifExp (pt_cmpR op_uGt (pe_callB call_uLen (by rfl) m_len (by decide +kernel) (pa_cons (pe_fld (pv 0) rfl) pa_nil)) pe_int (nomark _)) (pe_ix ix_uIx (pe_fld (pv 0) rfl) (pe_un un_uNeg pe_int) (fun _ _ => rfl)) (pe_fld (pv 0) rfl))))
abbrev s_File_state : Stmt := (inClass (topS 5) 2)
theorem sc_File_state : FnScope N_File_state ["self", "number"] (defScope s_File_state) := ⟨rfl, rfl, rfl, by decide +kernel, rfl, by decide +kernel, by decide +kernel⟩
theorem ok_File_state {f : Addr} {fd : FuncData} (F : Fun K "state" "File.state" s_File_state f fd) : FnOk P w K mg base CX0 1 f fd ["self", "number"] (sp_File_state K c) := by
  have sc := sc_File_state
  refine F.ok sc_File_state (fun vs H Q E h => ((w_File_state (c := c)) vs H Q E h).1) (fun cdv A outer s H vs Q E hr h => ⟨T_File_state K, ?_, ((w_File_state (c := c)) vs H Q E h).2⟩)
  exact (pss_one (ps_ret (pe_ifExp (pt_cmpR (op_uEq hr.units) (pv 1) pe_int (nomark _)) (pe_fld (pv 0) rfl) (pe_ix ix_uIx (pe_fld (pv 0) rfl) (pe_op op_uSub (pv 1) pe_int) (fun _ _ => rfl)))))
abbrev s_least_left : Stmt := (topS 6)
theorem sc_least_left : FnScope N_least_left ["before", "state"] (defScope s_least_left) := ⟨rfl, rfl, rfl, by decide +kernel, rfl, by decide +kernel, by decide +kernel⟩
theorem ok_least_left (m_len : mg "len" = none) {f : Addr} {fd : FuncData} (F : Fun K "least_left" "least_left" s_least_left f fd) : FnOk P w K mg base CX0 1 f fd ["before", "state"] (sp_least_left K) := by
  have sc := sc_least_left
  refine F.ok sc_least_left (fun vs H Q E h => ((w_least_left) vs H Q E h).1) (fun cdv A outer s H vs Q E hr h => ⟨T_least_left K, ?_, ((w_least_left) vs H Q E h).2⟩)
  exact (pss_cons (ps_if (PW.pt (pw_and (pt_cmpR op_uIsNot (pv 0) pe_non (nomark _)) (pw_and1 (pt_cmpR (op_uEq hr.units) (pe_slice sl_uSl (pv 1) po_none (po_some (pe_callB call_uLen (by rfl) m_len (by decide +kernel) (pa_cons (pv 0) pa_nil)))) (pv 0) (nomark _))))) (pss_one (ps_ret (pe_callB call_uLen (by rfl) m_len (by decide +kernel) (pa_cons (pv 0) pa_nil)))) pss_nil)
      (pss_one (ps_ret pe_int)))
abbrev s_left_of : Stmt := (topS 7)
theorem sc_left_of : FnScope N_left_of ["file", "number", "size"] (defScope s_left_of) := ⟨rfl, rfl, rfl, by decide +kernel, rfl, by decide +kernel, by decide +kernel⟩
theorem ok_left_of (C_File : ClsF K mg c "File" ["name", "sure", "since"]) (M_File_current : Mth P w K mg base 1 (c.cls "File") "current" ["self"] (sp_File_current K c)) (M_File_state : Mth P w K mg base 1 (c.cls "File") "state" ["self", "number"] (sp_File_state K c)) (D_least_left : Dfn P w K mg base 1 "least_left" ["before", "state"] (sp_least_left K)) (m_len : mg "len" = none) (m_max : mg "max" = none) (m_min : mg "min" = none) {f : Addr} {fd : FuncData} (F : Fun K "left_of" "left_of" s_left_of f fd) : FnOk P w K mg base CX0 2 f fd ["file", "number", "size"] (sp_left_of K c) := by
  have sc := sc_left_of
  refine F.ok sc_left_of (fun vs H Q E h => ((w_left_of (c := c)) vs H Q E h).1) (fun cdv A outer s H vs Q E hr h => ⟨T_left_of K c, ?_, ((w_left_of (c := c)) vs H Q E h).2⟩)
  exact (pss_cons (ps_if (PW.pt (pw_or (pt_cmpR (op_uLt hr.units) (pv 1) pe_int (nomark _)) (pw_or1 (pt_cmpR op_uGt (pv 1) (pe_callB call_uLen (by rfl) m_len (by decide +kernel) (pa_cons (pe_fld (pv 0) rfl) pa_nil)) (nomark _))))) (pss_one (ps_ret (z_meth0 (pv 0) C_File M_File_current (hr.mono (by decide))))) pss_nil)
      (pss_cons (ps_set (i := 3) sc.nd rfl (by first | exact Or.inl rfl | exact Or.inr rfl) (z_meth (pv 0) C_File M_File_state (hr.mono (by decide)) (pa_cons (pv 1) pa_nil)))
      (pss_cons (ps_if (PW.pt (pw_or (pt_cmpR (op_uEq hr.units) (pv 1) pe_int (nomark _)) (pw_or1 (pt_cmpR op_uIs (pv 3) pe_non (nomark _))))) (pss_one (ps_ret (pv 3))) pss_nil)
      (pss_cons (ps_set (i := 4) sc.nd rfl (by first | exact Or.inl rfl | exact Or.inr rfl) (z_call D_least_left (hr.mono (by decide)) (by rfl) (pa_cons (z_meth (pv 0) C_File M_File_state (hr.mono (by decide)) (pa_cons (pe_op op_uSub (pv 1) pe_int) pa_nil)) (pa_cons (pv 3) pa_nil))))
      (pss_one (ps_ret (pe_slice sl_uSl (pv 3) po_none (po_some (pe_callB (call_uMin rfl) (by rfl) m_min (by decide +kernel) (pa_cons (pe_callB (call_uMax rfl) (by rfl) m_max (by decide +kernel) (pa_cons (pv 2) (pa_cons (pv 4) pa_nil))) (pa_cons (pe_callB call_uLen (by rfl) m_len (by decide +kernel) (pa_cons (pv 3) pa_nil)) pa_nil)))))))))))
abbrev s_Disk_crash : Stmt := (inClass (topS 9) 7)
theorem sc_Disk_crash : FnScope N_Disk_crash ["self", "cuts"] (defScope s_Disk_crash) := ⟨rfl, rfl, rfl, by decide +kernel, rfl, by decide +kernel, by decide +kernel⟩
theorem ok_Disk_crash (C_File : ClsF K mg c "File" ["name", "sure", "since"]) (D_cut_of : Dfn P w K mg base 1 "cut_of" ["cuts", "name"] (sp_cut_of K)) (M_File_current : Mth P w K mg base 1 (c.cls "File") "current" ["self"] (sp_File_current K c)) (D_left_of : Dfn P w K mg base 2 "left_of" ["file", "number", "size"] (sp_left_of K c)) {f : Addr} {fd : FuncData} (F : Fun K "crash" "Disk.crash" s_Disk_crash f fd) : FnOk P w K mg base CX0 3 f fd ["self", "cuts"] (sp_Disk_crash K c) := by
  have sc := sc_Disk_crash
  refine F.ok sc_Disk_crash (fun vs H Q E h => ((w_Disk_crash (c := c)) vs H Q E h).1) (fun cdv A outer s H vs Q E hr h => ⟨T_Disk_crash K c, ?_, ((w_Disk_crash (c := c)) vs H Q E h).2⟩)
  exact (pss_one (ps_for PassesOwn.never rfl (pi_sq (pe_fld (pv 0) rfl)) (pg_name (i := 2) sc.nd rfl (by first | exact Or.inl rfl | exact Or.inr rfl)) (pss_cons (ps_set (i := 3) sc.nd rfl (by first | exact Or.inl rfl | exact Or.inr rfl) (z_call D_cut_of (hr.mono (by decide)) (by rfl) (pa_cons (pv 1) (pa_cons (pe_fld (pv 2) rfl) pa_nil))))
      (pss_cons (ps_set (i := 4) sc.nd rfl (by first | exact Or.inl rfl | exact Or.inr rfl) (pe_ifExp (pt_cmpR op_uIs (pv 3) pe_non (nomark _)) (z_meth0 (pv 2) C_File M_File_current (hr.mono (by decide))) (z_call D_left_of (hr.mono (by decide)) (by rfl) (pa_cons (pv 2) (pa_cons (pe_ix ix_uIx (pv 3) pe_int (fun _ _ => rfl)) (pa_cons (pe_ix ix_uIx (pv 3) pe_int (fun _ _ => rfl)) pa_nil))))))
      (pss_one (ps_fld (pv 2) (pe_ifExp (pt_cmpR (op_uEq hr.units) (pv 4) (pe_fld (pv 2) rfl) (nomark _)) (pe_lst pa_nil) (pe_lst (pa_cons (pv 4) pa_nil))) rfl))))))
abbrev s_law_left : Stmt := (topS 16)
theorem sc_law_left : FnScope N_law_left ["_law_states", "_law_number", "_law_size"] (defScope s_law_left) := ⟨rfl, rfl, rfl, by decide +kernel, rfl, by decide +kernel, by decide +kernel⟩
theorem ok_law_left (m_len : mg "len" = none) (m_max : mg "max" = none) {f : Addr} {fd : FuncData} (F : Fun K "_law_left" "_law_left" s_law_left f fd) : FnOk P w K mg base CX0 1 f fd ["_law_states", "_law_number", "_law_size"] (sp_law_left K) := by
  have sc := sc_law_left
  refine F.ok sc_law_left (fun vs H Q E h => ((w_law_left) vs H Q E h).1) (fun cdv A outer s H vs Q E hr h => ⟨T_law_left K, ?_, ((w_law_left) vs H Q E h).2⟩)
  exact (pss_cons (ps_if (PW.pt (pw_or (pt_cmpR (op_uLt hr.units) (pv 1) pe_int (nomark _)) (pw_or1 (pt_cmpR op_uGe (pv 1) (pe_callB call_uLen (by rfl) m_len (by decide +kernel) (pa_cons (pv 0) pa_nil)) (nomark _))))) (pss_one (ps_ret (pe_ix ix_uIx (pv 0) (pe_op op_uSub (pe_callB call_uLen (by rfl) m_len (by decide +kernel) (pa_cons (pv 0) pa_nil)) pe_int) (fun _ _ => rfl)))) pss_nil)
      (pss_cons (ps_set (i := 3) sc.nd rfl (by first | exact Or.inl rfl | exact Or.inr rfl) (pe_ix ix_uIx (pv 0) (pv 1) (fun _ _ => rfl)))
      (pss_cons (ps_if (PW.pt (pw_or (pt_cmpR (op_uEq hr.units) (pv 1) pe_int (nomark _)) (pw_or1 (pt_cmpR op_uIs (pv 3) pe_non (nomark _))))) (pss_one (ps_ret (pv 3))) pss_nil)
      (pss_cons (ps_set (i := 4) sc.nd rfl (by first | exact Or.inl rfl | exact Or.inr rfl) (pe_ix ix_uIx (pv 0) (pe_op op_uSub (pv 1) pe_int) (fun _ _ => rfl)))
      (pss_cons (ps_set (i := 5) sc.nd rfl (by first | exact Or.inl rfl | exact Or.inr rfl) pe_int)
      (pss_cut (ps_if (PW.pt (pw_and (pt_cmpR op_uIsNot (pv 4) pe_non (nomark _)) (pw_and1 (pt_cmpR (op_uEq hr.units) (pe_slice sl_uSl (pv 3) po_none (po_some (pe_callB call_uLen (by rfl) m_len (by decide +kernel) (pa_cons (pv 4) pa_nil)))) (pv 4) (nomark _))))) (pss_one (ps_set (i := 5) sc.nd rfl (by first | exact Or.inl rfl | exact Or.inr rfl) (pe_callB call_uLen (by rfl) m_len (by decide +kernel) (pa_cons (pv 4) pa_nil)))) pss_nil)
      (pss_one (ps_ret (pe_slice sl_uSl (pv 3) po_none (po_some (pe_callB (call_uMax rfl) (by rfl) m_max (by decide +kernel) (pa_cons (pv 2) (pa_cons (pv 5) pa_nil)))))))))))))
abbrev s_law_crash : Stmt := (topS 17)
theorem sc_law_crash : FnScope N_law_crash ["_law_table", "_law_cuts"] (defScope s_law_crash) := ⟨rfl, rfl, rfl, by decide +kernel, rfl, by decide +kernel, by decide +kernel⟩
theorem ok_law_crash (D_law_left : Dfn P w K mg base 1 "_law_left" ["_law_states", "_law_number", "_law_size"] (sp_law_left K)) (m_len : mg "len" = none) {f : Addr} {fd : FuncData} (F : Fun K "_law_crash" "_law_crash" s_law_crash f fd) : FnOk P w K mg base CX0 2 f fd ["_law_table", "_law_cuts"] (sp_law_crash K c) := by
  have sc := sc_law_crash
  refine F.ok sc_law_crash (fun vs H Q E h => ((w_law_crash (c := c)) vs H Q E h).1) (fun cdv A outer s H vs Q E hr h => ⟨T_law_crash K, ?_, ((w_law_crash (c := c)) vs H Q E h).2⟩)
  exact (pss_cons (ps_set (i := 2) sc.nd rfl (by first | exact Or.inl rfl | exact Or.inr rfl) (pe_lst pa_nil))
      (pss_cons (ps_for PassesOwn.never rfl (pi_sq (pv 0)) (pg_name (i := 3) sc.nd rfl (by first | exact Or.inl rfl | exact Or.inr rfl)) (pss_cons (ps_set (i := 4) sc.nd rfl (by first | exact Or.inl rfl | exact Or.inr rfl) (pe_ix ix_uIx (pe_ix ix_uIx (pv 3) pe_int (fun _ _ => rfl)) (pe_op op_uSub (pe_callB call_uLen (by rfl) m_len (by decide +kernel) (pa_cons (pe_ix ix_uIx (pv 3) pe_int (fun _ _ => rfl)) pa_nil)) pe_int) (fun _ _ => rfl)))
      (pss_cons (by first | exact (ps_setLc (i := 5) (own := [("_law_cut", 6)]) (g := (gName 6)) (tt := (tTest (tOp (uEq K) (tOp (uIx K) (tVar 6) (tC (.int 0))) (tOp (uIx K) (tVar 3) (tC (.int 0)))))) rfl sc.nd rfl rfl (sw_true rfl rfl rfl (by decide +kernel)) (pi_sq (pv 1)) (blkOk_by (N := N_law_crash) (sc := defScope s_law_crash) (by decide +kernel)) (fun _ _ _ _ _ => (pg_name (i := 6) sc.nd rfl (by first | exact Or.inl rfl | exact Or.inr rfl))) (fun _ _ _ _ _ => (pts_one (pt_cmpR (op_uEq hr.units) (pe_ix ix_uIx (pv 6) pe_int (fun _ _ => rfl)) (pe_ix ix_uIx (pv 3) pe_int (fun _ _ => rfl)) (nomark _)))) (fun _ _ _ _ _ => (pv 6))) | exact (ps_set (i := 5) sc.nd rfl (Or.inr rfl) (pe_lc (own := [("_law_cut", 6)]) (g := (gName 6)) (tt := (tTest (tOp (uEq K) (tOp (uIx K) (tVar 6) (tC (.int 0))) (tOp (uIx K) (tVar 3) (tC (.int 0)))))) rfl sc.nd (pi_sq (pv 1)) (blkOk_by (N := N_law_crash) (sc := defScope s_law_crash) (by decide +kernel)) (fun _ _ _ _ _ => (pg_name (i := 6) sc.nd rfl (by first | exact Or.inl rfl | exact Or.inr rfl))) (fun _ _ _ _ _ => (pts_one (pt_cmpR (op_uEq hr.units) (pe_ix ix_uIx (pv 6) pe_int (fun _ _ => rfl)) (pe_ix ix_uIx (pv 3) pe_int (fun _ _ => rfl)) (nomark _)))) (fun _ _ _ _ _ => (pv 6)))))
      (pss_cut (ps_if (pt_cmpR op_uGt (pe_callB call_uLen (by rfl) m_len (by decide +kernel) (pa_cons (pv 5) pa_nil)) pe_int (nomark _)) (pss_one (ps_set (i := 4) sc.nd rfl (by first | exact Or.inl rfl | exact Or.inr rfl) (z_call D_law_left (hr.mono (by decide)) (by rfl) (pa_cons (pe_ix ix_uIx (pv 3) pe_int (fun _ _ => rfl)) (pa_cons (pe_ix ix_uIx (pe_ix ix_uIx (pv 5) pe_int (fun _ _ => rfl)) pe_int (fun _ _ => rfl)) (pa_cons (pe_ix ix_uIx (pe_ix ix_uIx (pv 5) pe_int (fun _ _ => rfl)) pe_int (fun _ _ => rfl)) pa_nil)))))) pss_nil)
      (pss_cons (ps_set (i := 7) sc.nd rfl (by first | exact Or.inl rfl | exact Or.inr rfl) (pe_lst (pa_cons (pe_ix ix_uIx (pe_ix ix_uIx (pv 3) pe_int (fun _ _ => rfl)) pe_int (fun _ _ => rfl)) pa_nil)))
      (pss_cut (ps_if (pt_cmpR (op_uNe hr.units) (pv 4) (pe_ix ix_uIx (pe_ix ix_uIx (pv 3) pe_int (fun _ _ => rfl)) pe_int (fun _ _ => rfl)) (nomark _)) (pss_one (ps_expr (pe_bm PySem.F.plainAttrs_list PySem.F.slot_list_append PySem.F.type_list_append mt_append (pv 7) (pa_cons (pv 4) pa_nil)))) pss_nil)
      (pss_one (ps_expr (pe_bm PySem.F.plainAttrs_list PySem.F.slot_list_append PySem.F.type_list_append mt_append (pv 2) (pa_cons (pe_lst (pa_cons (pe_ix ix_uIx (pv 3) pe_int (fun _ _ => rfl)) (pa_cons pe_non (pa_cons (pv 7) pa_nil)))) pa_nil))))))))))
      (pss_one (ps_ret (pv 2)))))
abbrev s_law_numbers : Stmt := (topS 15)
theorem sc_law_numbers : FnScope N_law_numbers ["_law_state"] (defScope s_law_numbers) := ⟨rfl, rfl, rfl, by decide +kernel, rfl, by decide +kernel, by decide +kernel⟩
theorem ok_law_numbers (D_law_next : Dfn P w K mg base 2 "_law_next" ["_law_state", "_law_many"] (sp_law_next K)) (m_range : mg "range" = none) {f : Addr} {fd : FuncData} (F : Fun K "_law_numbers" "_law_numbers" s_law_numbers f fd) : FnOk P w K mg base CX0 3 f fd ["_law_state"] (sp_law_numbers K) := by
  have sc := sc_law_numbers
  refine F.ok sc_law_numbers (fun vs H Q E h => ((w_law_numbers) vs H Q E h).1) (fun cdv A outer s H vs Q E hr h => ⟨T_law_numbers K, ?_, ((w_law_numbers) vs H Q E h).2⟩)
  exact (pss_one (ps_ret (pe_lc (own := [("_law_k", 1)]) (g := (gName 1)) (tt := tYes) rfl sc.nd (pi_range1 (by rfl) m_range (pa_cons (z_call D_law_next (hr.mono (by decide)) (by rfl) (pa_cons (pv 0) (pa_cons pe_int pa_nil))) pa_nil)) (blkOk_by (N := N_law_numbers) (sc := defScope s_law_numbers) (by decide +kernel)) (fun _ _ _ _ _ => (pg_name (i := 1) sc.nd rfl (by first | exact Or.inl rfl | exact Or.inr rfl))) (fun _ _ _ _ _ => pts_nil) (fun _ _ _ _ _ => (z_call D_law_next (hr.mono (by decide)) (by rfl) (pa_cons (pv 0) (pa_cons pe_int pa_nil)))))))
abbrev s_law_contents : Stmt := (topS 13)
theorem sc_law_contents : FnScope N_law_contents ["_law_table", "_law_name"] (defScope s_law_contents) := ⟨rfl, rfl, rfl, by decide +kernel, rfl, by decide +kernel, by decide +kernel⟩
theorem ok_law_contents (m_len : mg "len" = none) {f : Addr} {fd : FuncData} (F : Fun K "_law_contents" "_law_contents" s_law_contents f fd) : FnOk P w K mg base CX0 1 f fd ["_law_table", "_law_name"] (sp_law_contents K) := by
  have sc := sc_law_contents
  refine F.ok sc_law_contents (fun vs H Q E h => ((w_law_contents) vs H Q E h).1) (fun cdv A outer s H vs Q E hr h => ⟨T_law_contents K, ?_, ((w_law_contents) vs H Q E h).2⟩)
  exact (pss_cons (ps_for PassesOwn.never rfl (pi_sq (pv 0)) (pg_name (i := 2) sc.nd rfl (by first | exact Or.inl rfl | exact Or.inr rfl)) (pss_one (ps_if (pt_cmpR (op_uEq hr.units) (pe_ix ix_uIx (pv 2) pe_int (fun _ _ => rfl)) (pv 1) (nomark _)) (pss_one (ps_ret (pe_ix ix_uIx (pe_ix ix_uIx (pv 2) pe_int (fun _ _ => rfl)) (pe_op op_uSub (pe_callB call_uLen (by rfl) m_len (by decide +kernel) (pa_cons (pe_ix ix_uIx (pv 2) pe_int (fun _ _ => rfl)) pa_nil)) pe_int) (fun _ _ => rfl)))) pss_nil)))
      (pss_one (ps_ret pe_non)))
abbrev s_Disk_sync : Stmt := (inClass (topS 9) 4)
theorem sc_Disk_sync : FnScope N_Disk_sync ["self"] (defScope s_Disk_sync) := ⟨rfl, rfl, rfl, by decide +kernel, rfl, by decide +kernel, by decide +kernel⟩
theorem ok_Disk_sync (C_File : ClsF K mg c "File" ["name", "sure", "since"]) (M_File_current : Mth P w K mg base 1 (c.cls "File") "current" ["self"] (sp_File_current K c)) {f : Addr} {fd : FuncData} (F : Fun K "sync" "Disk.sync" s_Disk_sync f fd) : FnOk P w K mg base CX0 2 f fd ["self"] (sp_Disk_sync K c) := by
  have sc := sc_Disk_sync
  refine F.ok sc_Disk_sync (fun vs H Q E h => ((w_Disk_sync (c := c)) vs H Q E h).1) (fun cdv A outer s H vs Q E hr h => ⟨T_Disk_sync K c, ?_, ((w_Disk_sync (c := c)) vs H Q E h).2⟩)
  exact (pss_one (ps_for PassesOwn.never rfl (pi_sq (pe_fld (pv 0) rfl)) (pg_name (i := 1) sc.nd rfl (by first | exact Or.inl rfl | exact Or.inr rfl)) (pss_cons (ps_fld (pv 1) (z_meth0 (pv 1) C_File M_File_current (hr.mono (by decide))) rfl)
      (pss_one (ps_fld (pv 1) (pe_lst pa_nil) rfl)))))
abbrev s_Disk_find : Stmt := (inClass (topS 9) 1)
theorem sc_Disk_find : FnScope N_Disk_find ["self", "name"] (defScope s_Disk_find) := ⟨rfl, rfl, rfl, by decide +kernel, rfl, by decide +kernel, by decide +kernel⟩
theorem ok_Disk_find {f : Addr} {fd : FuncData} (F : Fun K "find" "Disk.find" s_Disk_find f fd) : FnOk P w K mg base CX0 1 f fd ["self", "name"] (sp_Disk_find K c) := by
  have sc := sc_Disk_find
  refine F.ok sc_Disk_find (fun vs H Q E h => ((w_Disk_find (c := c)) vs H Q E h).1) (fun cdv A outer s H vs Q E hr h => ⟨T_Disk_find K, ?_, ((w_Disk_find (c := c)) vs H Q E h).2⟩)
  exact (pss_cons (ps_for PassesOwn.never rfl (pi_sq (pe_fld (pv 0) rfl)) (pg_name (i := 2) sc.nd rfl (by first | exact Or.inl rfl | exact Or.inr rfl)) (pss_one (ps_if (pt_cmpR (op_uEq hr.units) (pe_fld (pv 2) rfl) (pv 1) (nomark _)) (pss_one (ps_ret (pv 2))) pss_nil)))
      (pss_one (ps_ret pe_non)))
abbrev s_Disk_contents : Stmt := (inClass (topS 9) 2)
theorem sc_Disk_contents : FnScope N_Disk_contents ["self", "name"] (defScope s_Disk_contents) := ⟨rfl, rfl, rfl, by decide +kernel, rfl, by decide +kernel, by decide +kernel⟩
theorem ok_Disk_contents (C_Disk : ClsF K mg c "Disk" ["table"]) (C_File : ClsF K mg c "File" ["name", "sure", "since"]) (M_Disk_find : Mth P w K mg base 1 (c.cls "Disk") "find" ["self", "name"] (sp_Disk_find K c)) (M_File_current : Mth P w K mg base 1 (c.cls "File") "current" ["self"] (sp_File_current K c)) {f : Addr} {fd : FuncData} (F : Fun K "contents" "Disk.contents" s_Disk_contents f fd) : FnOk P w K mg base CX0 2 f fd ["self", "name"] (sp_Disk_contents K c) := by
  have sc := sc_Disk_contents
  refine F.ok sc_Disk_contents (fun vs H Q E h => ((w_Disk_contents (c := c)) vs H Q E h).1) (fun cdv A outer s H vs Q E hr h => ⟨T_Disk_contents K c, ?_, ((w_Disk_contents (c := c)) vs H Q E h).2⟩)
  exact (pss_cons (ps_set (i := 2) sc.nd rfl (by first | exact Or.inl rfl | exact Or.inr rfl) (z_meth (pv 0) C_Disk M_Disk_find (hr.mono (by decide)) (pa_cons (pv 1) pa_nil)))
      (pss_one (ps_ret (pe_ifExp (pt_cmpR op_uIs (pv 2) pe_non (nomark _)) pe_non (z_meth0 (pv 2) C_File M_File_current (hr.mono (by decide)))))))
abbrev s_File_init : Stmt := (inClass (topS 5) 0)
theorem sc_File_init : FnScope N_File_init ["self", "name"] (defScope s_File_init) := ⟨rfl, rfl, rfl, by decide +kernel, rfl, by decide +kernel, by decide +kernel⟩
theorem ok_File_init {f : Addr} {fd : FuncData} (F : Fun K "__init__" "File.__init__" s_File_init f fd) : FnOk P w K mg base CX0 1 f fd ["self", "name"] (sp_File_init K c) := by
  have sc := sc_File_init
  refine F.ok sc_File_init (fun vs H Q E h => ((w_File_init (c := c)) vs H Q E h).1) (fun cdv A outer s H vs Q E hr h => ⟨T_File_init K, ?_, ((w_File_init (c := c)) vs H Q E h).2⟩)
  exact (pss_cons (ps_fld (pv 0) (pv 1) rfl)
      (pss_cons (ps_fld (pv 0) pe_non rfl)
      (pss_one (ps_fld (pv 0) (pe_lst pa_nil) rfl))))
abbrev s_Disk_write : Stmt := (inClass (topS 9) 3)
theorem sc_Disk_write : FnScope N_Disk_write ["self", "name", "state"] (defScope s_Disk_write) := ⟨rfl, rfl, rfl, by decide +kernel, rfl, by decide +kernel, by decide +kernel⟩
theorem ok_Disk_write (C_Disk : ClsF K mg c "Disk" ["table"]) (C_File : ClsF K mg c "File" ["name", "sure", "since"]) (M_Disk_find : Mth P w K mg base 1 (c.cls "Disk") "find" ["self", "name"] (sp_Disk_find K c)) (K_File_init : Mkr P w K mg base 1 (c.cls "File") ["self", "name"] (sp_File_init K c)) {f : Addr} {fd : FuncData} (F : Fun K "write" "Disk.write" s_Disk_write f fd) : FnOk P w K mg base CX0 3 f fd ["self", "name", "state"] (sp_Disk_write K c) := by
  have sc := sc_Disk_write
  refine F.ok sc_Disk_write (fun vs H Q E h => ((w_Disk_write (c := c)) vs H Q E h).1) (fun cdv A outer s H vs Q E hr h => ⟨T_Disk_write K c, ?_, ((w_Disk_write (c := c)) vs H Q E h).2⟩)
  exact (pss_cons (ps_set (i := 3) sc.nd rfl (by first | exact Or.inl rfl | exact Or.inr rfl) (z_meth (pv 0) C_Disk M_Disk_find (hr.mono (by decide)) (pa_cons (pv 1) pa_nil)))
      (pss_cut (ps_if (pt_cmpR op_uIs (pv 3) pe_non (nomark _)) (pss_cons (ps_set (i := 3) sc.nd rfl (by first | exact Or.inl rfl | exact Or.inr rfl) (z_make C_File K_File_init (hr.mono (by decide)) (by rfl) (pa_cons (pv 1) pa_nil)))
      (pss_one (ps_expr (pe_bm PySem.F.plainAttrs_list PySem.F.slot_list_append PySem.F.type_list_append mt_append (pe_fld (pv 0) rfl) (pa_cons (pv 3) pa_nil))))) pss_nil)
      (pss_one (ps_expr (pe_bm PySem.F.plainAttrs_list PySem.F.slot_list_append PySem.F.type_list_append mt_append (pe_fld (pv 3) rfl) (pa_cons (pv 2) pa_nil))))))
abbrev s_Disk_ask_file : Stmt := (inClass (topS 9) 6)
theorem sc_Disk_ask_file : FnScope N_Disk_ask_file ["self", "word", "operation"] (defScope s_Disk_ask_file) := ⟨rfl, rfl, rfl, by decide +kernel, rfl, by decide +kernel, by decide +kernel⟩
theorem ok_Disk_ask_file (C_Disk : ClsF K mg c "Disk" ["table"]) (M_Disk_contents : Mth P w K mg base 2 (c.cls "Disk") "contents" ["self", "name"] (sp_Disk_contents K c)) (M_Disk_write : Mth P w K mg base 3 (c.cls "Disk") "write" ["self", "name", "state"] (sp_Disk_write K c)) (m_list : mg "list" = none) {f : Addr} {fd : FuncData} (F : Fun K "ask_file" "Disk.ask_file" s_Disk_ask_file f fd) : FnOk P w K mg base CX0 4 f fd ["self", "word", "operation"] (sp_Disk_ask_file K c) := by
  have sc := sc_Disk_ask_file
  refine F.ok sc_Disk_ask_file (fun vs H Q E h => ((w_Disk_ask_file (c := c)) vs H Q E h).1) (fun cdv A outer s H vs Q E hr h => ⟨T_Disk_ask_file K c, ?_, ((w_Disk_ask_file (c := c)) vs H Q E h).2⟩)
  exact (pss_cons (ps_set (i := 3) sc.nd rfl (by first | exact Or.inl rfl | exact Or.inr rfl) (pe_ix ix_uIx (pv 2) pe_int (fun _ _ => rfl)))
      (pss_cons (ps_set (i := 4) sc.nd rfl (by first | exact Or.inl rfl | exact Or.inr rfl) (z_meth (pv 0) C_Disk M_Disk_contents (hr.mono (by decide)) (pa_cons (pv 3) pa_nil)))
      (pss_cons (ps_if (pt_cmpR (op_uNe hr.units) (pe_cmpR op_uIs (pv 4) pe_non (nomark _)) (pe_cmpR (op_uEq hr.units) (pv 1) pe_str (nomark _)) (nomark _)) (pss_one (ps_ret (pe_tup (pa_cons pe_str pa_nil)))) pss_nil)
      (pss_cons (ps_if (pt_cmpR (op_uEq hr.units) (pv 1) pe_str (nomark _)) (pss_one (ps_ret (pe_tup (pa_cons pe_str (pa_cons (pe_callTy call_uList (by rfl) m_list (by decide +kernel) (pa_cons (pv 4) pa_nil)) pa_nil))))) pss_nil)
      (pss_cut (ps_if (pt_cmpR (op_uEq hr.units) (pv 1) pe_str (nomark _)) (pss_one (ps_expr (z_meth (pv 0) C_Disk M_Disk_write (hr.mono (by decide)) (pa_cons (pv 3) (pa_cons pe_non pa_nil))))) (pss_one (ps_if (pt_cmpR (op_uEq hr.units) (pv 1) pe_str (nomark _)) (pss_one (ps_expr (z_meth (pv 0) C_Disk M_Disk_write (hr.mono (by decide)) (pa_cons (pv 3) (pa_cons (pe_callTy call_uList (by rfl) m_list (by decide +kernel) (pa_cons (pe_ix ix_uIx (pv 2) pe_int (fun _ _ => rfl)) pa_nil)) pa_nil))))) (pss_one (ps_expr (z_meth (pv 0) C_Disk M_Disk_write (hr.mono (by decide)) (pa_cons (pv 3) (pa_cons (pe_op op_uAdd (pv 4) (pe_callTy call_uList (by rfl) m_list (by decide +kernel) (pa_cons (pe_ix ix_uIx (pv 2) pe_int (fun _ _ => rfl)) pa_nil))) pa_nil))))))))
      (pss_one (ps_ret (pe_tup (pa_cons pe_str pa_nil)))))))))
abbrev s_Disk_ask : Stmt := (inClass (topS 9) 5)
theorem sc_Disk_ask : FnScope N_Disk_ask ["self", "operation"] (defScope s_Disk_ask) := ⟨rfl, rfl, rfl, by decide +kernel, rfl, by decide +kernel, by decide +kernel⟩
theorem ok_Disk_ask (E_InvalidOperation : ExcF K mg c "InvalidOperation") (C_File : ClsF K mg c "File" ["name", "sure", "since"]) (C_Disk : ClsF K mg c "Disk" ["table"]) (M_File_current : Mth P w K mg base 1 (c.cls "File") "current" ["self"] (sp_File_current K c)) (M_Disk_sync : Mth P w K mg base 2 (c.cls "Disk") "sync" ["self"] (sp_Disk_sync K c)) (M_Disk_ask_file : Mth P w K mg base 4 (c.cls "Disk") "ask_file" ["self", "word", "operation"] (sp_Disk_ask_file K c)) (g_WORDS : ∃ T, mg "WORDS" = some (.ref T) ∧ ∀ H, SqT K H T [.str "append", .str "make", .str "remove", .str "sync", .str "read", .str "names"]) {f : Addr} {fd : FuncData} (F : Fun K "ask" "Disk.ask" s_Disk_ask f fd) : FnOk P w K mg base (L2.CX P w) 5 f fd ["self", "operation"] (sp_Disk_ask K c) := by
  have sc := sc_Disk_ask
  refine F.okX sc_Disk_ask (fun vs H Q E h => ((w_Disk_ask (c := c)) vs H Q E h).1) (fun cdv A outer s H vs Q E hr h => ⟨T_Disk_ask K c (fun cls d _ H => E cls d H), ?_, ((w_Disk_ask (c := c)) vs H Q E h).2⟩)
  exact (pss_cons (ps_set (i := 2) sc.nd rfl (by first | exact Or.inl rfl | exact Or.inr rfl) (pe_ix ix_uIx (pv 1) pe_int (fun _ _ => rfl)))
      (pss_cons (ps_if (pt_cmpR op_uNotIn (pv 2) (z_gtup g_WORDS (by rfl)) (by rfl)) (pss_one (z_raiseA rfl E_InvalidOperation (takes_of rfl rfl rfl rfl) (by rfl) (pv 2))) pss_nil)
      (pss_cons (ps_if (pt_cmpR (op_uEq hr.units) (pv 2) pe_str (nomark _)) (pss_one (ps_ret (pe_tup (pa_cons pe_str (pa_cons (pe_lc (own := [("file", 3)]) (g := (gName 3)) (tt := (tTest (tOp uIsNot (tMt c "File" "current" (sp_File_current K c) (tVar 3) tNil) (tC .non)))) rfl sc.nd (pi_sq (pe_fld (pv 0) rfl)) (blkOk_by (N := N_Disk_ask) (sc := defScope s_Disk_ask) (by decide +kernel)) (fun _ _ _ _ _ => (pg_name (i := 3) sc.nd rfl (by first | exact Or.inl rfl | exact Or.inr rfl))) (fun _ _ _ _ _ => (pts_one (pt_cmpR op_uIsNot (z_meth0 (pv 3) C_File M_File_current (hr.mono (by decide))) pe_non (nomark _)))) (fun _ _ _ _ _ => (pe_fld (pv 3) rfl))) pa_nil))))) pss_nil)
      (pss_cons (ps_if (pt_cmpR (op_uEq hr.units) (pv 2) pe_str (nomark _)) (pss_cons (ps_expr (z_meth0 (pv 0) C_Disk M_Disk_sync (hr.mono (by decide))))
      (pss_one (ps_ret (pe_tup (pa_cons pe_str pa_nil))))) pss_nil)
      (pss_one (ps_ret (z_meth (pv 0) C_Disk M_Disk_ask_file (hr.mono (by decide)) (pa_cons (pv 2) (pa_cons (pv 1) pa_nil)))))))))
abbrev s_law_asked : Stmt := (topS 18)
theorem sc_law_asked : FnScope N_law_asked ["_law_disk", "_law_operation"] (defScope s_law_asked) := ⟨rfl, rfl, rfl, by decide +kernel, rfl, by decide +kernel, by decide +kernel⟩
theorem ok_law_asked (N_InvalidOperation : mg "InvalidOperation" = some (.ref (c.cls "InvalidOperation"))) (T_InvalidOperation : ∀ y ∈ (["InvalidOperation"] : List Str), PySem.W.exmOne K (.ref (c.cls y)) (.ref (c.cls "InvalidOperation")) = some (SUB y "InvalidOperation")) (N_SurenearError : mg "SurenearError" = some (.ref (c.cls "SurenearError"))) (T_SurenearError : ∀ y ∈ (["InvalidOperation"] : List Str), PySem.W.exmOne K (.ref (c.cls y)) (.ref (c.cls "SurenearError")) = some (SUB y "SurenearError")) (C_Disk : ClsF K mg c "Disk" ["table"]) (M_Disk_ask : MthX P w K mg base 5 (c.cls "Disk") "ask" ["self", "operation"] (sp_Disk_ask K c)) {f : Addr} {fd : FuncData} (F : Fun K "_law_asked" "_law_asked" s_law_asked f fd) : FnOk P w K mg base CX0 6 f fd ["_law_disk", "_law_operation"] (sp_law_asked K c) := by
  have sc := sc_law_asked
  refine F.ok sc_law_asked (fun vs H Q E h => ((w_law_asked (c := c)) vs H Q E h).1) (fun cdv A outer s H vs Q E hr h => ⟨T_law_asked K c, ?_, ((w_law_asked (c := c)) vs H Q E h).2⟩)
  exact (pss_one (z_tryM (l := [("InvalidOperation", (tRet (tC .non))), ("SurenearError", (tRet (tTup (tCons (tC (.str "another error")) tNil))))]) rfl rfl (List.forall_mem_cons.mpr ⟨T_InvalidOperation, (List.forall_mem_cons.mpr ⟨T_SurenearError, (fun _ h => nomatch h)⟩)⟩) takes0 (fun W pn xe tk po => (pss_one (ps_ret (z_methX (pv 0) C_Disk M_Disk_ask (passW tk) (hr.mono (by decide)) (pa_cons (pv 1) pa_nil))))) (.cons ⟨by rfl, by decide, .inl N_InvalidOperation⟩ (fun a oe cls d pn hz hf => (pss_one (ps_ret pe_non))) (.cons ⟨by rfl, by decide, .inl N_SurenearError⟩ (fun a oe cls d pn hz hf => (pss_one (ps_ret (pe_tup (pa_cons pe_str pa_nil))))) .nil))))
abbrev s_law_write : Stmt := (topS 14)
theorem sc_law_write : FnScope N_law_write ["_law_table", "_law_name", "_law_worth"] (defScope s_law_write) := ⟨rfl, rfl, rfl, by decide +kernel, rfl, by decide +kernel, by decide +kernel⟩
theorem ok_law_write {f : Addr} {fd : FuncData} (F : Fun K "_law_write" "_law_write" s_law_write f fd) : FnOk P w K mg base CX0 1 f fd ["_law_table", "_law_name", "_law_worth"] (sp_law_write K c) := by
  have sc := sc_law_write
  refine F.ok sc_law_write (fun vs H Q E h => ((w_law_write (c := c)) vs H Q E h).1) (fun cdv A outer s H vs Q E hr h => ⟨T_law_write K, ?_, ((w_law_write (c := c)) vs H Q E h).2⟩)
  exact (pss_cons (ps_for PassesOwn.never rfl (pi_sq (pv 0)) (pg_name (i := 3) sc.nd rfl (by first | exact Or.inl rfl | exact Or.inr rfl)) (pss_one (ps_if (pt_cmpR (op_uEq hr.units) (pe_ix ix_uIx (pv 3) pe_int (fun _ _ => rfl)) (pv 1) (nomark _)) (pss_cons (ps_asg (pe_op op_uAdd (pe_ix ix_uIx (pv 3) pe_int (fun _ _ => rfl)) (pe_lst (pa_cons (pv 2) pa_nil))) (pg_sub (pv 3) pe_int set_list))
      (pss_one (ps_ret (pv 0)))) pss_nil)))
      (pss_one (ps_ret (pe_op op_uAdd (pv 0) (pe_lst (pa_cons (pe_lst (pa_cons (pv 1) (pa_cons pe_non (pa_cons (pe_lst (pa_cons pe_non (pa_cons (pv 2) pa_nil))) pa_nil)))) pa_nil))))))
abbrev s_law_step : Stmt := (topS 19)
theorem sc_law_step : FnScope N_law_step ["_law_state", "_law_disk", "_law_table"] (defScope s_law_step) := ⟨rfl, rfl, rfl, by decide +kernel, rfl, by decide +kernel, by decide +kernel⟩
theorem ok_law_step (D_law_next : Dfn P w K mg base 2 "_law_next" ["_law_state", "_law_many"] (sp_law_next K)) (D_law_numbers : Dfn P w K mg base 3 "_law_numbers" ["_law_state"] (sp_law_numbers K)) (D_law_contents : Dfn P w K mg base 1 "_law_contents" ["_law_table", "_law_name"] (sp_law_contents K)) (D_law_asked : Dfn P w K mg base 6 "_law_asked" ["_law_disk", "_law_operation"] (sp_law_asked K c)) (D_law_write : Dfn P w K mg base 1 "_law_write" ["_law_table", "_law_name", "_law_worth"] (sp_law_write K c)) (m_len : mg "len" = none) (m_list : mg "list" = none) {f : Addr} {fd : FuncData} (F : Fun K "_law_step" "_law_step" s_law_step f fd) : FnOk P w K mg base CX0 7 f fd ["_law_state", "_law_disk", "_law_table"] (sp_law_step K c) := by
  have sc := sc_law_step
  refine F.ok sc_law_step (fun vs H Q E h => ((w_law_step (c := c)) vs H Q E h).1) (fun cdv A outer s H vs Q E hr h => ⟨T_law_step K c, ?_, ((w_law_step (c := c)) vs H Q E h).2⟩)
  exact (pss_cons (ps_set (i := 3) sc.nd rfl (by first | exact Or.inl rfl | exact Or.inr rfl) (z_call D_law_next (hr.mono (by decide)) (by rfl) (pa_cons (pv 0) (pa_cons pe_int pa_nil))))
      (pss_cons (ps_set (i := 4) sc.nd rfl (by first | exact Or.inl rfl | exact Or.inr rfl) (pe_ix ix_uIx (pe_lst (pa_cons pe_str (pa_cons pe_str (pa_cons pe_str pa_nil)))) (z_call D_law_next (hr.mono (by decide)) (by rfl) (pa_cons (pv 0) (pa_cons pe_int pa_nil))) (fun _ _ => rfl)))
      (pss_cons (ps_set (i := 5) sc.nd rfl (by first | exact Or.inl rfl | exact Or.inr rfl) (z_call D_law_numbers (hr.mono (by decide)) (by rfl) (pa_cons (pv 0) pa_nil)))
      (pss_cons (ps_set (i := 6) sc.nd rfl (by first | exact Or.inl rfl | exact Or.inr rfl) (z_call D_law_contents (hr.mono (by decide)) (by rfl) (pa_cons (pv 2) (pa_cons (pv 4) pa_nil))))
      (pss_cons (ps_if (pt_cmpR (op_uEq hr.units) (pv 3) pe_int (nomark _)) (pss_one (ps_ret (pe_tup (pa_cons (pv 2) (pa_cons (pe_cmpR (op_uEq hr.units) (z_call D_law_asked (hr.mono (by decide)) (by rfl) (pa_cons (pv 1) (pa_cons (pe_tup (pa_cons pe_str pa_nil)) pa_nil))) (pe_tup (pa_cons pe_str pa_nil)) (nomark _)) (pa_cons pe_int pa_nil)))))) pss_nil)
      (pss_cons (ps_if (pt_cmpR (op_uEq hr.units) (pv 3) pe_int (nomark _)) (pss_cons (by first | exact (ps_setLc (i := 7) (own := [("_law_row_here", 8)]) (g := (gName 8)) (tt := (tTest (tOp uIsNot (tOp (uIx K) (tOp (uIx K) (tVar 8) (tC (.int 2))) (tOp uSub (tCB (uLen K) (tCons (tOp (uIx K) (tVar 8) (tC (.int 2))) tNil)) (tC (.int 1)))) (tC .non)))) rfl sc.nd rfl rfl (sw_true rfl rfl rfl (by decide +kernel)) (pi_sq (pv 2)) (blkOk_by (N := N_law_step) (sc := defScope s_law_step) (by decide +kernel)) (fun _ _ _ _ _ => (pg_name (i := 8) sc.nd rfl (by first | exact Or.inl rfl | exact Or.inr rfl))) (fun _ _ _ _ _ => (pts_one (pt_cmpR op_uIsNot (pe_ix ix_uIx (pe_ix ix_uIx (pv 8) pe_int (fun _ _ => rfl)) (pe_op op_uSub (pe_callB call_uLen (by rfl) m_len (by decide +kernel) (pa_cons (pe_ix ix_uIx (pv 8) pe_int (fun _ _ => rfl)) pa_nil)) pe_int) (fun _ _ => rfl)) pe_non (nomark _)))) (fun _ _ _ _ _ => (pe_ix ix_uIx (pv 8) pe_int (fun _ _ => rfl)))) | exact (ps_set (i := 7) sc.nd rfl (Or.inr rfl) (pe_lc (own := [("_law_row_here", 8)]) (g := (gName 8)) (tt := (tTest (tOp uIsNot (tOp (uIx K) (tOp (uIx K) (tVar 8) (tC (.int 2))) (tOp uSub (tCB (uLen K) (tCons (tOp (uIx K) (tVar 8) (tC (.int 2))) tNil)) (tC (.int 1)))) (tC .non)))) rfl sc.nd (pi_sq (pv 2)) (blkOk_by (N := N_law_step) (sc := defScope s_law_step) (by decide +kernel)) (fun _ _ _ _ _ => (pg_name (i := 8) sc.nd rfl (by first | exact Or.inl rfl | exact Or.inr rfl))) (fun _ _ _ _ _ => (pts_one (pt_cmpR op_uIsNot (pe_ix ix_uIx (pe_ix ix_uIx (pv 8) pe_int (fun _ _ => rfl)) (pe_op op_uSub (pe_callB call_uLen (by rfl) m_len (by decide +kernel) (pa_cons (pe_ix ix_uIx (pv 8) pe_int (fun _ _ => rfl)) pa_nil)) pe_int) (fun _ _ => rfl)) pe_non (nomark _)))) (fun _ _ _ _ _ => (pe_ix ix_uIx (pv 8) pe_int (fun _ _ => rfl))))))
      (pss_one (ps_ret (pe_tup (pa_cons (pv 2) (pa_cons (pe_cmpR (op_uEq hr.units) (z_call D_law_asked (hr.mono (by decide)) (by rfl) (pa_cons (pv 1) (pa_cons (pe_tup (pa_cons pe_str pa_nil)) pa_nil))) (pe_tup (pa_cons pe_str (pa_cons (pv 7) pa_nil))) (nomark _)) (pa_cons pe_int pa_nil))))))) pss_nil)
      (pss_cons (ps_if (pt_cmpR (op_uEq hr.units) (pv 3) pe_int (nomark _)) (pss_one (ps_ret (pe_tup (pa_cons (pv 2) (pa_cons (pe_cmpR op_uIs (z_call D_law_asked (hr.mono (by decide)) (by rfl) (pa_cons (pv 1) (pa_cons (pe_tup (pa_cons (pe_ix ix_uIx (pe_lst (pa_cons pe_str (pa_cons pe_str (pa_cons pe_str pa_nil)))) (z_call D_law_next (hr.mono (by decide)) (by rfl) (pa_cons (pv 0) (pa_cons pe_int pa_nil))) (fun _ _ => rfl)) (pa_cons (pv 4) pa_nil))) pa_nil))) pe_non (nomark _)) (pa_cons pe_int pa_nil)))))) pss_nil)
      (pss_cons (ps_if (pt_cmpR (op_uEq hr.units) (pv 3) pe_int (nomark _)) (pss_cons (ps_set (i := 9) sc.nd rfl (by first | exact Or.inl rfl | exact Or.inr rfl) (z_call D_law_asked (hr.mono (by decide)) (by rfl) (pa_cons (pv 1) (pa_cons (pe_tup (pa_cons pe_str (pa_cons (pv 4) pa_nil))) pa_nil))))
      (pss_cons (ps_if (pt_cmpR op_uIs (pv 6) pe_non (nomark _)) (pss_one (ps_ret (pe_tup (pa_cons (pv 2) (pa_cons (pe_cmpR (op_uEq hr.units) (pv 9) (pe_tup (pa_cons pe_str pa_nil)) (nomark _)) (pa_cons pe_int pa_nil)))))) pss_nil)
      (pss_cons (ps_set (i := 10) sc.nd rfl (by first | exact Or.inl rfl | exact Or.inr rfl) (pe_cmpR (op_uEq hr.units) (pv 9) (pe_tup (pa_cons pe_str (pa_cons (pv 6) pa_nil))) (nomark _)))
      (pss_cut (ps_if (pt_u (pv 10)) (pss_cons (ps_set (i := 11) sc.nd rfl (by first | exact Or.inl rfl | exact Or.inr rfl) (pe_ix ix_uIx (pv 9) pe_int (fun _ _ => rfl)))
      (pss_one (ps_expr (pe_bm PySem.F.plainAttrs_list PySem.F.slot_list_append PySem.F.type_list_append mt_append (pv 11) (pa_cons pe_int pa_nil))))) pss_nil)
      (pss_one (ps_ret (pe_tup (pa_cons (pv 2) (pa_cons (pv 10) (pa_cons pe_int pa_nil)))))))))) pss_nil)
      (pss_cons (ps_set (i := 12) sc.nd rfl (by first | exact Or.inl rfl | exact Or.inr rfl) (pe_ix ix_uIx (pe_lst (pa_cons pe_str (pa_cons pe_str (pa_cons pe_str (pa_cons pe_str (pa_cons pe_str pa_nil)))))) (pe_op op_uSub (pv 3) pe_int) (fun _ _ => rfl)))
      (pss_cons (ps_set (i := 13) sc.nd rfl (by first | exact Or.inl rfl | exact Or.inr rfl) (pe_callTy call_uList (by rfl) m_list (by decide +kernel) (pa_cons (pv 5) pa_nil)))
      (pss_cons (ps_set (i := 9) sc.nd rfl (by first | exact Or.inl rfl | exact Or.inr rfl) (z_call D_law_asked (hr.mono (by decide)) (by rfl) (pa_cons (pv 1) (pa_cons (pe_tup (pa_cons (pv 12) (pa_cons (pv 4) (pa_cons (pv 13) pa_nil)))) pa_nil))))
      (pss_cons (ps_if (pt_cmpR (op_uNe hr.units) (pv 13) (pv 5) (nomark _)) (pss_one (ps_ret (pe_tup (pa_cons (pv 2) (pa_cons pe_bl (pa_cons pe_int pa_nil)))))) pss_nil)
      (pss_cons (ps_if (pt_cmpR (op_uNe hr.units) (pe_cmpR op_uIs (pv 6) pe_non (nomark _)) (pe_cmpR (op_uEq hr.units) (pv 12) pe_str (nomark _)) (nomark _)) (pss_one (ps_ret (pe_tup (pa_cons (pv 2) (pa_cons (pe_cmpR (op_uEq hr.units) (pv 9) (pe_tup (pa_cons pe_str pa_nil)) (nomark _)) (pa_cons pe_int pa_nil)))))) pss_nil)
      (pss_cons (ps_set (i := 14) sc.nd rfl (by first | exact Or.inl rfl | exact Or.inr rfl) pe_non)
      (pss_cut (ps_if (pt_cmpR (op_uNe hr.units) (pv 12) pe_str (nomark _)) (pss_cons (ps_set (i := 14) sc.nd rfl (by first | exact Or.inl rfl | exact Or.inr rfl) (pv 5))
      (pss_one (ps_if (pt_cmpR (op_uEq hr.units) (pv 12) pe_str (nomark _)) (pss_one (ps_set (i := 14) sc.nd rfl (by first | exact Or.inl rfl | exact Or.inr rfl) (pe_op op_uAdd (pv 6) (pv 5)))) pss_nil))) pss_nil)
      (pss_one (ps_ret (pe_tup (pa_cons (z_call D_law_write (hr.mono (by decide)) (by rfl) (pa_cons (pv 2) (pa_cons (pv 4) (pa_cons (pv 14) pa_nil)))) (pa_cons (pe_cmpR (op_uEq hr.units) (pv 9) (pe_tup (pa_cons pe_str pa_nil)) (nomark _)) (pa_cons pe_int pa_nil)))))))))))))))))))))
abbrev s_Disk_files : Stmt := (inClass (topS 9) 8)
theorem sc_Disk_files : FnScope N_Disk_files ["self"] (defScope s_Disk_files) := ⟨rfl, rfl, rfl, by decide +kernel, rfl, by decide +kernel, by decide +kernel⟩
theorem ok_Disk_files (C_File : ClsF K mg c "File" ["name", "sure", "since"]) (M_File_current : Mth P w K mg base 1 (c.cls "File") "current" ["self"] (sp_File_current K c)) (m_list : mg "list" = none) {f : Addr} {fd : FuncData} (F : Fun K "files" "Disk.files" s_Disk_files f fd) : FnOk P w K mg base CX0 2 f fd ["self"] (sp_Disk_files K c) := by
  have sc := sc_Disk_files
  refine F.ok sc_Disk_files (fun vs H Q E h => ((w_Disk_files (c := c)) vs H Q E h).1) (fun cdv A outer s H vs Q E hr h => ⟨T_Disk_files K c, ?_, ((w_Disk_files (c := c)) vs H Q E h).2⟩)
  exact (pss_cons (ps_set (i := 1) sc.nd rfl (by first | exact Or.inl rfl | exact Or.inr rfl) (pe_lst pa_nil))
      (pss_cons (ps_for PassesOwn.never rfl (pi_sq (pe_fld (pv 0) rfl)) (pg_name (i := 2) sc.nd rfl (by first | exact Or.inl rfl | exact Or.inr rfl)) (pss_cons (ps_set (i := 3) sc.nd rfl (by first | exact Or.inl rfl | exact Or.inr rfl) (z_meth0 (pv 2) C_File M_File_current (hr.mono (by decide))))
      (pss_one (ps_if (PW.pt (pw_or (pt_cmpR op_uIsNot (pv 3) pe_non (nomark _)) (pw_or1 (pt_cmpR op_uIsNot (pe_fld (pv 2) rfl) pe_non (nomark _))))) (pss_cons (ps_set (i := 4) sc.nd rfl (by first | exact Or.inl rfl | exact Or.inr rfl) (pe_ifExp (pt_cmpR op_uIs (pe_fld (pv 2) rfl) pe_non (nomark _)) pe_non (pe_callTy call_uList (by rfl) m_list (by decide +kernel) (pa_cons (pe_fld (pv 2) rfl) pa_nil))))
      (pss_one (ps_expr (pe_bm PySem.F.plainAttrs_list PySem.F.slot_list_append PySem.F.type_list_append mt_append (pv 1) (pa_cons (pe_tup (pa_cons (pe_fld (pv 2) rfl) (pa_cons (pv 4) (pa_cons (pe_ifExp (pt_cmpR op_uIs (pv 3) pe_non (nomark _)) pe_non (pe_callTy call_uList (by rfl) m_list (by decide +kernel) (pa_cons (pv 3) pa_nil))) pa_nil)))) pa_nil))))) pss_nil))))
      (pss_one (ps_ret (pv 1)))))
abbrev s_law : Stmt := (topS 20)
theorem sc_law : FnScope N_law ["_law_script"] (defScope s_law) := ⟨rfl, rfl, rfl, by decide +kernel, rfl, by decide +kernel, by decide +kernel⟩
theorem ok_law (C_Disk : ClsF K mg c "Disk" ["table"]) (K_Disk_init : Mkr P w K mg base 1 (c.cls "Disk") ["self"] (sp_Disk_init K c)) (D_law_next : Dfn P w K mg base 2 "_law_next" ["_law_state", "_law_many"] (sp_law_next K)) (M_Disk_crash : Mth P w K mg base 3 (c.cls "Disk") "crash" ["self", "cuts"] (sp_Disk_crash K c)) (D_law_crash : Dfn P w K mg base 2 "_law_crash" ["_law_table", "_law_cuts"] (sp_law_crash K c)) (D_law_step : Dfn P w K mg base 7 "_law_step" ["_law_state", "_law_disk", "_law_table"] (sp_law_step K c)) (M_Disk_files : Mth P w K mg base 2 (c.cls "Disk") "files" ["self"] (sp_Disk_files K c)) (m_list : mg "list" = none) (m_range : mg "range" = none) (m_len : mg "len" = none) {f : Addr} {fd : FuncData} (F : Fun K "law" "law" s_law f fd) : FnOk P w K mg base CX0 8 f fd ["_law_script"] (sp_law K) := by
  have sc := sc_law
  refine F.ok sc_law (fun vs H Q E h => ((w_law (c := c)) vs H Q E h).1) (fun cdv A outer s H vs Q E hr h => ⟨T_law K c, ?_, ((w_law (c := c)) vs H Q E h).2⟩)
  exact (pss_cons (ps_set (i := 1) sc.nd rfl (by first | exact Or.inl rfl | exact Or.inr rfl) (pe_lst (pa_cons (pe_callTy call_uList (by rfl) m_list (by decide +kernel) (pa_cons (pv 0) pa_nil)) (pa_cons pe_int (pa_cons pe_int pa_nil)))))
      (pss_cons (ps_set (i := 2) sc.nd rfl (by first | exact Or.inl rfl | exact Or.inr rfl) (z_make0 C_Disk K_Disk_init (hr.mono (by decide)) (by rfl)))
      (pss_cons (ps_set (i := 3) sc.nd rfl (by first | exact Or.inl rfl | exact Or.inr rfl) (pe_lst pa_nil))
      (pss_cons (ps_for PassesOwn.never rfl (pi_range1 (by rfl) m_range (pa_cons pe_int pa_nil)) (pg_name (i := 4) sc.nd rfl (by first | exact Or.inl rfl | exact Or.inr rfl)) (pss_cut (ps_if (pt_cmpR (op_uEq hr.units) (z_call D_law_next (hr.mono (by decide)) (by rfl) (pa_cons (pv 1) (pa_cons pe_int pa_nil))) pe_int (nomark _)) (pss_cons (ps_set (i := 5) sc.nd rfl (by first | exact Or.inl rfl | exact Or.inr rfl) (pe_lst pa_nil))
      (pss_cons (ps_for PassesOwn.never rfl (pi_range1 (by rfl) m_range (pa_cons (z_call D_law_next (hr.mono (by decide)) (by rfl) (pa_cons (pv 1) (pa_cons pe_int pa_nil))) pa_nil)) (pg_name (i := 6) sc.nd rfl (by first | exact Or.inl rfl | exact Or.inr rfl)) (pss_one (ps_expr (pe_bm PySem.F.plainAttrs_list PySem.F.slot_list_append PySem.F.type_list_append mt_append (pv 5) (pa_cons (pe_tup (pa_cons (pe_ix ix_uIx (pe_lst (pa_cons pe_str (pa_cons pe_str (pa_cons pe_str pa_nil)))) (z_call D_law_next (hr.mono (by decide)) (by rfl) (pa_cons (pv 1) (pa_cons pe_int pa_nil))) (fun _ _ => rfl)) (pa_cons (pe_op op_uSub (z_call D_law_next (hr.mono (by decide)) (by rfl) (pa_cons (pv 1) (pa_cons pe_int pa_nil))) pe_int) (pa_cons (z_call D_law_next (hr.mono (by decide)) (by rfl) (pa_cons (pv 1) (pa_cons pe_int pa_nil))) pa_nil)))) pa_nil)))))
      (pss_cons (ps_expr (z_meth (pv 2) C_Disk M_Disk_crash (hr.mono (by decide)) (pa_cons (pe_callTy call_uList (by rfl) m_list (by decide +kernel) (pa_cons (pv 5) pa_nil)) pa_nil)))
      (pss_one (ps_set (i := 3) sc.nd rfl (by first | exact Or.inl rfl | exact Or.inr rfl) (z_call D_law_crash (hr.mono (by decide)) (by rfl) (pa_cons (pv 3) (pa_cons (pv 5) pa_nil)))))))) pss_nil)
      (pss_cons (ps_asg (z_call D_law_step (hr.mono (by decide)) (by rfl) (pa_cons (pv 1) (pa_cons (pv 2) (pa_cons (pv 3) pa_nil)))) (pg_tup rfl (pgs_cons (pg_name (i := 3) sc.nd rfl (by first | exact Or.inl rfl | exact Or.inr rfl)) (pgs_cons (pg_name (i := 7) sc.nd rfl (by first | exact Or.inl rfl | exact Or.inr rfl)) (pgs_cons (pg_name (i := 8) sc.nd rfl (by first | exact Or.inl rfl | exact Or.inr rfl)) pgs_nil)))))
      (pss_cons (ps_if (pt_not (pt_u (pv 7))) (pss_one (ps_ret pe_bl)) pss_nil)
      (pss_cut (ps_if (pt_cmpR (op_uEq hr.units) (pv 8) pe_int (nomark _)) (pss_one (by first | exact (ps_setLc (i := 3) (own := [("_law_row_here", 9)]) (g := (gName 9)) (tt := tYes) rfl sc.nd rfl rfl (sw_true rfl rfl rfl (by decide +kernel)) (pi_sq (pv 3)) (blkOk_by (N := N_law) (sc := defScope s_law) (by decide +kernel)) (fun _ _ _ _ _ => (pg_name (i := 9) sc.nd rfl (by first | exact Or.inl rfl | exact Or.inr rfl))) (fun _ _ _ _ _ => pts_nil) (fun _ _ _ _ _ => (pe_lst (pa_cons (pe_ix ix_uIx (pv 9) pe_int (fun _ _ => rfl)) (pa_cons pe_non (pa_cons (pe_slice sl_uSl (pe_ix ix_uIx (pv 9) pe_int (fun _ _ => rfl)) (po_some (pe_op op_uSub (pe_callB call_uLen (by rfl) m_len (by decide +kernel) (pa_cons (pe_ix ix_uIx (pv 9) pe_int (fun _ _ => rfl)) pa_nil)) pe_int)) po_none) pa_nil)))))) | exact (ps_set (i := 3) sc.nd rfl (Or.inr rfl) (pe_lc (own := [("_law_row_here", 9)]) (g := (gName 9)) (tt := tYes) rfl sc.nd (pi_sq (pv 3)) (blkOk_by (N := N_law) (sc := defScope s_law) (by decide +kernel)) (fun _ _ _ _ _ => (pg_name (i := 9) sc.nd rfl (by first | exact Or.inl rfl | exact Or.inr rfl))) (fun _ _ _ _ _ => pts_nil) (fun _ _ _ _ _ => (pe_lst (pa_cons (pe_ix ix_uIx (pv 9) pe_int (fun _ _ => rfl)) (pa_cons pe_non (pa_cons (pe_slice sl_uSl (pe_ix ix_uIx (pv 9) pe_int (fun _ _ => rfl)) (po_some (pe_op op_uSub (pe_callB call_uLen (by rfl) m_len (by decide +kernel) (pa_cons (pe_ix ix_uIx (pv 9) pe_int (fun _ _ => rfl)) pa_nil)) pe_int)) po_none) pa_nil))))))))) pss_nil)
      (pss_cons (ps_set (i := 10) sc.nd rfl (by first | exact Or.inl rfl | exact Or.inr rfl) (pe_lst pa_nil))
      (pss_cons (ps_for PassesOwn.never rfl (pi_sq (pv 3)) (pg_name (i := 9) sc.nd rfl (by first | exact Or.inl rfl | exact Or.inr rfl)) (pss_one (ps_if (PW.pt (pw_or (pt_cmpR op_uIsNot (pe_ix ix_uIx (pe_ix ix_uIx (pv 9) pe_int (fun _ _ => rfl)) pe_int (fun _ _ => rfl)) pe_non (nomark _)) (pw_or1 (pt_cmpR op_uIsNot (pe_ix ix_uIx (pe_ix ix_uIx (pv 9) pe_int (fun _ _ => rfl)) (pe_op op_uSub (pe_callB call_uLen (by rfl) m_len (by decide +kernel) (pa_cons (pe_ix ix_uIx (pv 9) pe_int (fun _ _ => rfl)) pa_nil)) pe_int) (fun _ _ => rfl)) pe_non (nomark _))))) (pss_one (ps_expr (pe_bm PySem.F.plainAttrs_list PySem.F.slot_list_append PySem.F.type_list_append mt_append (pv 10) (pa_cons (pe_tup (pa_cons (pe_ix ix_uIx (pv 9) pe_int (fun _ _ => rfl)) (pa_cons (pe_ix ix_uIx (pe_ix ix_uIx (pv 9) pe_int (fun _ _ => rfl)) pe_int (fun _ _ => rfl)) (pa_cons (pe_ix ix_uIx (pe_ix ix_uIx (pv 9) pe_int (fun _ _ => rfl)) (pe_op op_uSub (pe_callB call_uLen (by rfl) m_len (by decide +kernel) (pa_cons (pe_ix ix_uIx (pv 9) pe_int (fun _ _ => rfl)) pa_nil)) pe_int) (fun _ _ => rfl)) pa_nil)))) pa_nil)))) pss_nil)))
      (pss_one (ps_if (pt_cmpR (op_uNe hr.units) (z_meth0 (pv 2) C_Disk M_Disk_files (hr.mono (by decide))) (pv 10) (nomark _)) (pss_one (ps_ret pe_bl)) pss_nil)))))))))
      (pss_one (ps_ret pe_bl))))))
end
def cEnv (C0 C1 C2 C3 : Addr) : CEnv := ⟨fun x => (([("File", C0), ("Disk", C1), ("InvalidOperation", C2), ("SurenearError", C3)] : List (Str × Addr)).lookup x).getD 0, fun y => y ∈ ([] : List Str)⟩
theorem all_mk {l : PySem.W.OpenLaw} {w : World} {K : PySem.W.Frag} {h : Heap} {mg : Str → Option Value} {fa f0 f1 f2 f3 f4 f5 f6 f7 f8 f9 f10 f11 f12 f13 f14 f15 f16 f17 f18 f19 f20 f21 f22 f23 f24 C0 C1 C2 C3  : Addr} (X : K.In h) (G : h.Ns mainGlobals mg) (hfa : mg "law" = some (.ref fa))
    {tg0_0 tg0_1 tg0_2 tg0_3 tg0_4 tg0_5 : Tok}
    {kt0 : Addr} {ktd0 : Option Addr} {ktn0 : Nat} {kts0 : Array (Option Value)}
    {od0 an0 od1 an1 od2 an2 od3 an3 od4 an4 od5 an5 od6 an6 od7 an7 od8 an8 od9 an9 od10 an10 od11 an11 od12 an12 od13 an13 od14 an14 od15 an15 od16 an16 od17 an17 od18 an18 od19 an19 od20 an20 od21 an21 od22 an22 od23 an23 od24 an24 : Option Addr} {sl0 sl1 sl2 sl3 sl4 sl5 sl6 sl7 sl8 sl9 sl10 sl11 sl12 sl13 sl14 sl15 sl16 sl17 sl18 sl19 sl20 sl21 sl22 sl23 sl24 : Array (Option Value)} {oc0 kV0 dc0 pm0 cd0 ct0 oc1 kV1 dc1 pm1 cd1 ct1 oc2 kV2 dc2 pm2 cd2 ct2 oc3 kV3 dc3 pm3 cd3 ct3 oc4 kV4 dc4 pm4 cd4 ct4 oc5 kV5 dc5 pm5 cd5 ct5 oc6 kV6 dc6 pm6 cd6 ct6 oc7 kV7 dc7 pm7 cd7 ct7 oc8 kV8 dc8 pm8 cd8 ct8 oc9 kV9 dc9 pm9 cd9 ct9 oc10 kV10 dc10 pm10 cd10 ct10 oc11 kV11 dc11 pm11 cd11 ct11 oc12 kV12 dc12 pm12 cd12 ct12 oc13 kV13 dc13 pm13 cd13 ct13 oc14 kV14 dc14 pm14 cd14 ct14 oc15 kV15 dc15 pm15 cd15 ct15 oc16 kV16 dc16 pm16 cd16 ct16 oc17 kV17 dc17 pm17 cd17 ct17 oc18 kV18 dc18 pm18 cd18 ct18 oc19 kV19 dc19 pm19 cd19 ct19 oc20 kV20 dc20 pm20 cd20 ct20 oc21 kV21 dc21 pm21 cd21 ct21 oc22 kV22 dc22 pm22 cd22 ct22 oc23 kV23 dc23 pm23 cd23 ct23 oc24 kV24 dc24 pm24 cd24 ct24 : Value}
    (b0 : PySem.W.nsIn K mainGlobals "File" = some (some (.ref C0)))
    (pg0 : PySem.W.plainGet K C0 Str.empty = true)
    (hd0 : PySem.W.hasDictIn K C0 = true)
    (po0 : PySem.W.plainOver K C0 = true)
    (sa0 : PySem.W.findIn K (.ref C0) "__setattr__" = some (some (.builtin "object.__setattr__")))
    (ha0 : PySem.W.findIn K (.ref C0) "__class__" = some (some (.builtin "object.__class__")))
    (hm0 : PySem.W.mroIn K C0 (.type "object") = some true)
    (mk0 : PySem.W.makesIn K C0 = true)
    (kc0 : PySem.W.keepIn K (.ref C0) = true)
    (n0_0 : PySem.W.findIn K (.ref C0) "name" = some none)
    (n0_1 : PySem.W.findIn K (.ref C0) "sure" = some none)
    (n0_2 : PySem.W.findIn K (.ref C0) "since" = some none)
    (b1 : PySem.W.nsIn K mainGlobals "Disk" = some (some (.ref C1)))
    (pg1 : PySem.W.plainGet K C1 Str.empty = true)
    (hd1 : PySem.W.hasDictIn K C1 = true)
    (po1 : PySem.W.plainOver K C1 = true)
    (sa1 : PySem.W.findIn K (.ref C1) "__setattr__" = some (some (.builtin "object.__setattr__")))
    (ha1 : PySem.W.findIn K (.ref C1) "__class__" = some (some (.builtin "object.__class__")))
    (hm1 : PySem.W.mroIn K C1 (.type "object") = some true)
    (mk1 : PySem.W.makesIn K C1 = true)
    (kc1 : PySem.W.keepIn K (.ref C1) = true)
    (n1_0 : PySem.W.findIn K (.ref C1) "table" = some none)
    (b2 : PySem.W.nsIn K mainGlobals "InvalidOperation" = some (some (.ref C2)))
    (xq2 : PySem.W.excIn K C2 [.type "ValueError", .type "Exception", .type "BaseException", .type "object"] "ValueError.__new__" = true)
    (kc2 : PySem.W.keepIn K (.ref C2) = true)
    (xb2 : PySem.W.subIn K (.ref C2) (.type "BaseException") = some true)
    (xt2 : PySem.W.typeIn K (.ref C2) = some (.type "type"))
    (xi2 : PySem.W.isClsIn K C2 = true)
    (xs2_2 : PySem.W.subIn K (.ref C2) (.ref C2) = some true)
    (b3 : PySem.W.nsIn K mainGlobals "SurenearError" = some (some (.ref C3)))
    (xb3 : PySem.W.subIn K (.ref C3) (.type "BaseException") = some true)
    (xt3 : PySem.W.typeIn K (.ref C3) = some (.type "type"))
    (xi3 : PySem.W.isClsIn K C3 = true)
    (xs3_2 : PySem.W.subIn K (.ref C2) (.ref C3) = some true)
    (hn : PySem.W.specialIn K (.builtin "object.__class__") "__get__" = some (some (.builtin "getset_descriptor.__get__")))
    (htk : PySem.W.takesIn K (.builtin "object.__class__") = some true)
    (a0 : PySem.W.findIn K (.ref C1) "__init__" = some (some (.ref f0)))
    (i0 : PySem.W.isFn K (.ref f0) = true)
    (l0 : K.lookup f0 = some ⟨oc0, od0, .func (PySem.W.fnOf "__init__" "Disk.__init__" (defArgs s_Disk_init) (defBody s_Disk_init) (defScope s_Disk_init) .none kV0 dc0 pm0 an0 cd0 ct0), sl0⟩)
    (c0 : PySem.W.codeIn K cd0 "Disk.__init__" = true)
    (k0 : PySem.W.keepIn K (.ref f0) = true)
    (a1 : PySem.W.nsIn K mainGlobals "_law_row" = some (some (.ref f1)))
    (l1 : K.lookup f1 = some ⟨oc1, od1, .func (PySem.W.fnOf "_law_row" "_law_row" (defArgs s_law_row) (defBody s_law_row) (defScope s_law_row) .none kV1 dc1 pm1 an1 cd1 ct1), sl1⟩)
    (c1 : PySem.W.codeIn K cd1 "_law_row" = true)
    (k1 : PySem.W.keepIn K (.ref f1) = true)
    (a2 : PySem.W.nsIn K mainGlobals "_law_next" = some (some (.ref f2)))
    (l2 : K.lookup f2 = some ⟨oc2, od2, .func (PySem.W.fnOf "_law_next" "_law_next" (defArgs s_law_next) (defBody s_law_next) (defScope s_law_next) .none kV2 dc2 pm2 an2 cd2 ct2), sl2⟩)
    (c2 : PySem.W.codeIn K cd2 "_law_next" = true)
    (k2 : PySem.W.keepIn K (.ref f2) = true)
    (a3 : PySem.W.nsIn K mainGlobals "cut_of" = some (some (.ref f3)))
    (l3 : K.lookup f3 = some ⟨oc3, od3, .func (PySem.W.fnOf "cut_of" "cut_of" (defArgs s_cut_of) (defBody s_cut_of) (defScope s_cut_of) .none kV3 dc3 pm3 an3 cd3 ct3), sl3⟩)
    (c3 : PySem.W.codeIn K cd3 "cut_of" = true)
    (k3 : PySem.W.keepIn K (.ref f3) = true)
    (a4 : PySem.W.findIn K (.ref C0) "current" = some (some (.ref f4)))
    (i4 : PySem.W.isFn K (.ref f4) = true)
    (l4 : K.lookup f4 = some ⟨oc4, od4, .func (PySem.W.fnOf "current" "File.current" (defArgs s_File_current) (defBody s_File_current) (defScope s_File_current) .none kV4 dc4 pm4 an4 cd4 ct4), sl4⟩)
    (c4 : PySem.W.codeIn K cd4 "File.current" = true)
    (k4 : PySem.W.keepIn K (.ref f4) = true)
    (a5 : PySem.W.findIn K (.ref C0) "state" = some (some (.ref f5)))
    (i5 : PySem.W.isFn K (.ref f5) = true)
    (l5 : K.lookup f5 = some ⟨oc5, od5, .func (PySem.W.fnOf "state" "File.state" (defArgs s_File_state) (defBody s_File_state) (defScope s_File_state) .none kV5 dc5 pm5 an5 cd5 ct5), sl5⟩)
    (c5 : PySem.W.codeIn K cd5 "File.state" = true)
    (k5 : PySem.W.keepIn K (.ref f5) = true)
    (a6 : PySem.W.nsIn K mainGlobals "least_left" = some (some (.ref f6)))
    (l6 : K.lookup f6 = some ⟨oc6, od6, .func (PySem.W.fnOf "least_left" "least_left" (defArgs s_least_left) (defBody s_least_left) (defScope s_least_left) .none kV6 dc6 pm6 an6 cd6 ct6), sl6⟩)
    (c6 : PySem.W.codeIn K cd6 "least_left" = true)
    (k6 : PySem.W.keepIn K (.ref f6) = true)
    (a7 : PySem.W.nsIn K mainGlobals "left_of" = some (some (.ref f7)))
    (l7 : K.lookup f7 = some ⟨oc7, od7, .func (PySem.W.fnOf "left_of" "left_of" (defArgs s_left_of) (defBody s_left_of) (defScope s_left_of) .none kV7 dc7 pm7 an7 cd7 ct7), sl7⟩)
    (c7 : PySem.W.codeIn K cd7 "left_of" = true)
    (k7 : PySem.W.keepIn K (.ref f7) = true)
    (a8 : PySem.W.findIn K (.ref C1) "crash" = some (some (.ref f8)))
    (i8 : PySem.W.isFn K (.ref f8) = true)
    (l8 : K.lookup f8 = some ⟨oc8, od8, .func (PySem.W.fnOf "crash" "Disk.crash" (defArgs s_Disk_crash) (defBody s_Disk_crash) (defScope s_Disk_crash) .none kV8 dc8 pm8 an8 cd8 ct8), sl8⟩)
    (c8 : PySem.W.codeIn K cd8 "Disk.crash" = true)
    (k8 : PySem.W.keepIn K (.ref f8) = true)
    (a9 : PySem.W.nsIn K mainGlobals "_law_left" = some (some (.ref f9)))
    (l9 : K.lookup f9 = some ⟨oc9, od9, .func (PySem.W.fnOf "_law_left" "_law_left" (defArgs s_law_left) (defBody s_law_left) (defScope s_law_left) .none kV9 dc9 pm9 an9 cd9 ct9), sl9⟩)
    (c9 : PySem.W.codeIn K cd9 "_law_left" = true)
    (k9 : PySem.W.keepIn K (.ref f9) = true)
    (a10 : PySem.W.nsIn K mainGlobals "_law_crash" = some (some (.ref f10)))
    (l10 : K.lookup f10 = some ⟨oc10, od10, .func (PySem.W.fnOf "_law_crash" "_law_crash" (defArgs s_law_crash) (defBody s_law_crash) (defScope s_law_crash) .none kV10 dc10 pm10 an10 cd10 ct10), sl10⟩)
    (c10 : PySem.W.codeIn K cd10 "_law_crash" = true)
    (k10 : PySem.W.keepIn K (.ref f10) = true)
    (a11 : PySem.W.nsIn K mainGlobals "_law_numbers" = some (some (.ref f11)))
    (l11 : K.lookup f11 = some ⟨oc11, od11, .func (PySem.W.fnOf "_law_numbers" "_law_numbers" (defArgs s_law_numbers) (defBody s_law_numbers) (defScope s_law_numbers) .none kV11 dc11 pm11 an11 cd11 ct11), sl11⟩)
    (c11 : PySem.W.codeIn K cd11 "_law_numbers" = true)
    (k11 : PySem.W.keepIn K (.ref f11) = true)
    (a12 : PySem.W.nsIn K mainGlobals "_law_contents" = some (some (.ref f12)))
    (l12 : K.lookup f12 = some ⟨oc12, od12, .func (PySem.W.fnOf "_law_contents" "_law_contents" (defArgs s_law_contents) (defBody s_law_contents) (defScope s_law_contents) .none kV12 dc12 pm12 an12 cd12 ct12), sl12⟩)
    (c12 : PySem.W.codeIn K cd12 "_law_contents" = true)
    (k12 : PySem.W.keepIn K (.ref f12) = true)
    (a13 : PySem.W.findIn K (.ref C1) "sync" = some (some (.ref f13)))
    (i13 : PySem.W.isFn K (.ref f13) = true)
    (l13 : K.lookup f13 = some ⟨oc13, od13, .func (PySem.W.fnOf "sync" "Disk.sync" (defArgs s_Disk_sync) (defBody s_Disk_sync) (defScope s_Disk_sync) .none kV13 dc13 pm13 an13 cd13 ct13), sl13⟩)
    (c13 : PySem.W.codeIn K cd13 "Disk.sync" = true)
    (k13 : PySem.W.keepIn K (.ref f13) = true)
    (a14 : PySem.W.findIn K (.ref C1) "find" = some (some (.ref f14)))
    (i14 : PySem.W.isFn K (.ref f14) = true)
    (l14 : K.lookup f14 = some ⟨oc14, od14, .func (PySem.W.fnOf "find" "Disk.find" (defArgs s_Disk_find) (defBody s_Disk_find) (defScope s_Disk_find) .none kV14 dc14 pm14 an14 cd14 ct14), sl14⟩)
    (c14 : PySem.W.codeIn K cd14 "Disk.find" = true)
    (k14 : PySem.W.keepIn K (.ref f14) = true)
    (a15 : PySem.W.findIn K (.ref C1) "contents" = some (some (.ref f15)))
    (i15 : PySem.W.isFn K (.ref f15) = true)
    (l15 : K.lookup f15 = some ⟨oc15, od15, .func (PySem.W.fnOf "contents" "Disk.contents" (defArgs s_Disk_contents) (defBody s_Disk_contents) (defScope s_Disk_contents) .none kV15 dc15 pm15 an15 cd15 ct15), sl15⟩)
    (c15 : PySem.W.codeIn K cd15 "Disk.contents" = true)
    (k15 : PySem.W.keepIn K (.ref f15) = true)
    (a16 : PySem.W.findIn K (.ref C0) "__init__" = some (some (.ref f16)))
    (i16 : PySem.W.isFn K (.ref f16) = true)
    (l16 : K.lookup f16 = some ⟨oc16, od16, .func (PySem.W.fnOf "__init__" "File.__init__" (defArgs s_File_init) (defBody s_File_init) (defScope s_File_init) .none kV16 dc16 pm16 an16 cd16 ct16), sl16⟩)
    (c16 : PySem.W.codeIn K cd16 "File.__init__" = true)
    (k16 : PySem.W.keepIn K (.ref f16) = true)
    (a17 : PySem.W.findIn K (.ref C1) "write" = some (some (.ref f17)))
    (i17 : PySem.W.isFn K (.ref f17) = true)
    (l17 : K.lookup f17 = some ⟨oc17, od17, .func (PySem.W.fnOf "write" "Disk.write" (defArgs s_Disk_write) (defBody s_Disk_write) (defScope s_Disk_write) .none kV17 dc17 pm17 an17 cd17 ct17), sl17⟩)
    (c17 : PySem.W.codeIn K cd17 "Disk.write" = true)
    (k17 : PySem.W.keepIn K (.ref f17) = true)
    (a18 : PySem.W.findIn K (.ref C1) "ask_file" = some (some (.ref f18)))
    (i18 : PySem.W.isFn K (.ref f18) = true)
    (l18 : K.lookup f18 = some ⟨oc18, od18, .func (PySem.W.fnOf "ask_file" "Disk.ask_file" (defArgs s_Disk_ask_file) (defBody s_Disk_ask_file) (defScope s_Disk_ask_file) .none kV18 dc18 pm18 an18 cd18 ct18), sl18⟩)
    (c18 : PySem.W.codeIn K cd18 "Disk.ask_file" = true)
    (k18 : PySem.W.keepIn K (.ref f18) = true)
    (a19 : PySem.W.findIn K (.ref C1) "ask" = some (some (.ref f19)))
    (i19 : PySem.W.isFn K (.ref f19) = true)
    (l19 : K.lookup f19 = some ⟨oc19, od19, .func (PySem.W.fnOf "ask" "Disk.ask" (defArgs s_Disk_ask) (defBody s_Disk_ask) (defScope s_Disk_ask) .none kV19 dc19 pm19 an19 cd19 ct19), sl19⟩)
    (c19 : PySem.W.codeIn K cd19 "Disk.ask" = true)
    (k19 : PySem.W.keepIn K (.ref f19) = true)
    (a20 : PySem.W.nsIn K mainGlobals "_law_asked" = some (some (.ref f20)))
    (l20 : K.lookup f20 = some ⟨oc20, od20, .func (PySem.W.fnOf "_law_asked" "_law_asked" (defArgs s_law_asked) (defBody s_law_asked) (defScope s_law_asked) .none kV20 dc20 pm20 an20 cd20 ct20), sl20⟩)
    (c20 : PySem.W.codeIn K cd20 "_law_asked" = true)
    (k20 : PySem.W.keepIn K (.ref f20) = true)
    (a21 : PySem.W.nsIn K mainGlobals "_law_write" = some (some (.ref f21)))
    (l21 : K.lookup f21 = some ⟨oc21, od21, .func (PySem.W.fnOf "_law_write" "_law_write" (defArgs s_law_write) (defBody s_law_write) (defScope s_law_write) .none kV21 dc21 pm21 an21 cd21 ct21), sl21⟩)
    (c21 : PySem.W.codeIn K cd21 "_law_write" = true)
    (k21 : PySem.W.keepIn K (.ref f21) = true)
    (a22 : PySem.W.nsIn K mainGlobals "_law_step" = some (some (.ref f22)))
    (l22 : K.lookup f22 = some ⟨oc22, od22, .func (PySem.W.fnOf "_law_step" "_law_step" (defArgs s_law_step) (defBody s_law_step) (defScope s_law_step) .none kV22 dc22 pm22 an22 cd22 ct22), sl22⟩)
    (c22 : PySem.W.codeIn K cd22 "_law_step" = true)
    (k22 : PySem.W.keepIn K (.ref f22) = true)
    (a23 : PySem.W.findIn K (.ref C1) "files" = some (some (.ref f23)))
    (i23 : PySem.W.isFn K (.ref f23) = true)
    (l23 : K.lookup f23 = some ⟨oc23, od23, .func (PySem.W.fnOf "files" "Disk.files" (defArgs s_Disk_files) (defBody s_Disk_files) (defScope s_Disk_files) .none kV23 dc23 pm23 an23 cd23 ct23), sl23⟩)
    (c23 : PySem.W.codeIn K cd23 "Disk.files" = true)
    (k23 : PySem.W.keepIn K (.ref f23) = true)
    (a24 : PySem.W.nsIn K mainGlobals "law" = some (some (.ref f24)))
    (l24 : K.lookup f24 = some ⟨oc24, od24, .func (PySem.W.fnOf "law" "law" (defArgs s_law) (defBody s_law) (defScope s_law) .none kV24 dc24 pm24 an24 cd24 ct24), sl24⟩)
    (c24 : PySem.W.codeIn K cd24 "law" = true)
    (k24 : PySem.W.keepIn K (.ref f24) = true)
    (z0 : PySem.W.nsIn K mainGlobals "len" = some none)
    (z1 : PySem.W.nsIn K mainGlobals "int" = some none)
    (z2 : PySem.W.nsIn K mainGlobals "max" = some none)
    (z3 : PySem.W.nsIn K mainGlobals "min" = some none)
    (z4 : PySem.W.nsIn K mainGlobals "range" = some none)
    (z5 : PySem.W.nsIn K mainGlobals "list" = some none)
    (kg0 : PySem.W.nsIn K mainGlobals "WORDS" = some (some (.ref kt0)))
    (kl0 : K.lookup kt0 = some ⟨.type "tuple", ktd0, .seq ([.str "append" tg0_0, .str "make" tg0_1, .str "remove" tg0_2, .str "sync" tg0_3, .str "read" tg0_4, .str "names" tg0_5] : List Value).toArray ktn0, kts0⟩)
    : ∃ fd : FuncData, (∀ (s : Shared) (v : Value), BindsTo s fd ⟨[v], []⟩ [("_law_script", v)]) ∧ ∀ base : Heap, K.In base → base.Ns mainGlobals mg → FnOk l.prog w K mg base CX0 8 fa fd ["_law_script"] (sp_law K) := by
  have e := hfa.symm.trans (PySem.W.mg_of X G a24)
  cases e
  have m_len := PySem.W.mg_none_of X G z0
  have m_int := PySem.W.mg_none_of X G z1
  have m_max := PySem.W.mg_none_of X G z2
  have m_min := PySem.W.mg_none_of X G z3
  have m_range := PySem.W.mg_none_of X G z4
  have m_list := PySem.W.mg_none_of X G z5
  have g_WORDS : ∃ T, mg "WORDS" = some (.ref T) ∧ ∀ H, SqT K H T [.str "append", .str "make", .str "remove", .str "sync", .str "read", .str "names"] := ⟨_, PySem.W.mg_of X G kg0, sqT_lit kl0 (.cons ⟨_, rfl⟩ (.cons ⟨_, rfl⟩ (.cons ⟨_, rfl⟩ (.cons ⟨_, rfl⟩ (.cons ⟨_, rfl⟩ (.cons ⟨_, rfl⟩ .nil)))))) (by decide)⟩
  have E_InvalidOperation : ExcF K mg (cEnv C0 C1 C2 C3) "InvalidOperation" := ⟨xq2, PySem.W.mg_of X G b2, kc2, xb2, xt2⟩
  have N_InvalidOperation : mg "InvalidOperation" = some (.ref ((cEnv C0 C1 C2 C3).cls "InvalidOperation")) := PySem.W.mg_of X G b2
  have T_InvalidOperation : ∀ y ∈ (["InvalidOperation"] : List Str), PySem.W.exmOne K (.ref ((cEnv C0 C1 C2 C3).cls y)) (.ref ((cEnv C0 C1 C2 C3).cls "InvalidOperation")) = some (SUB y "InvalidOperation") := (List.forall_mem_cons.mpr ⟨(by rw [show SUB "InvalidOperation" "InvalidOperation" = true by decide +kernel]; exact exm_of xb2 xi2 xt2 xs2_2), (fun _ h => nomatch h)⟩)
  have N_SurenearError : mg "SurenearError" = some (.ref ((cEnv C0 C1 C2 C3).cls "SurenearError")) := PySem.W.mg_of X G b3
  have T_SurenearError : ∀ y ∈ (["InvalidOperation"] : List Str), PySem.W.exmOne K (.ref ((cEnv C0 C1 C2 C3).cls y)) (.ref ((cEnv C0 C1 C2 C3).cls "SurenearError")) = some (SUB y "SurenearError") := (List.forall_mem_cons.mpr ⟨(by rw [show SUB "InvalidOperation" "SurenearError" = true by decide +kernel]; exact exm_of xb3 xi3 xt3 xs3_2), (fun _ h => nomatch h)⟩)
  have F0 := fun_mk (st := s_Disk_init) l0 c0 k0
  have F1 := fun_mk (st := s_law_row) l1 c1 k1
  have F2 := fun_mk (st := s_law_next) l2 c2 k2
  have F3 := fun_mk (st := s_cut_of) l3 c3 k3
  have F4 := fun_mk (st := s_File_current) l4 c4 k4
  have F5 := fun_mk (st := s_File_state) l5 c5 k5
  have F6 := fun_mk (st := s_least_left) l6 c6 k6
  have F7 := fun_mk (st := s_left_of) l7 c7 k7
  have F8 := fun_mk (st := s_Disk_crash) l8 c8 k8
  have F9 := fun_mk (st := s_law_left) l9 c9 k9
  have F10 := fun_mk (st := s_law_crash) l10 c10 k10
  have F11 := fun_mk (st := s_law_numbers) l11 c11 k11
  have F12 := fun_mk (st := s_law_contents) l12 c12 k12
  have F13 := fun_mk (st := s_Disk_sync) l13 c13 k13
  have F14 := fun_mk (st := s_Disk_find) l14 c14 k14
  have F15 := fun_mk (st := s_Disk_contents) l15 c15 k15
  have F16 := fun_mk (st := s_File_init) l16 c16 k16
  have F17 := fun_mk (st := s_Disk_write) l17 c17 k17
  have F18 := fun_mk (st := s_Disk_ask_file) l18 c18 k18
  have F19 := fun_mk (st := s_Disk_ask) l19 c19 k19
  have F20 := fun_mk (st := s_law_asked) l20 c20 k20
  have F21 := fun_mk (st := s_law_write) l21 c21 k21
  have F22 := fun_mk (st := s_law_step) l22 c22 k22
  have F23 := fun_mk (st := s_Disk_files) l23 c23 k23
  have F24 := fun_mk (st := s_law) l24 c24 k24
  have O_File : ClsOk K (cEnv C0 C1 C2 C3) "File" ["name", "sure", "since"] := ⟨⟨pg0, hd0, po0, sa0⟩, na_of (List.forall_mem_cons.mpr ⟨n0_0, (List.forall_mem_cons.mpr ⟨n0_1, (List.forall_mem_cons.mpr ⟨n0_2, (fun _ h => nomatch h)⟩)⟩)⟩), ha0, hn, htk, hm0, (fun _ h => nomatch h), (fun _ h => nomatch h)⟩
  have C_File : ClsF K mg (cEnv C0 C1 C2 C3) "File" ["name", "sure", "since"] := ⟨O_File, fun h => absurd h (by show _ ∉ ([] : List Str); decide +kernel), PySem.W.mg_of X G b0⟩
  have O_Disk : ClsOk K (cEnv C0 C1 C2 C3) "Disk" ["table"] := ⟨⟨pg1, hd1, po1, sa1⟩, na_of (List.forall_mem_cons.mpr ⟨n1_0, (fun _ h => nomatch h)⟩), ha1, hn, htk, hm1, (fun _ h => nomatch h), (fun _ h => nomatch h)⟩
  have C_Disk : ClsF K mg (cEnv C0 C1 C2 C3) "Disk" ["table"] := ⟨O_Disk, fun h => absurd h (by show _ ∉ ([] : List Str); decide +kernel), PySem.W.mg_of X G b1⟩
  refine ⟨PySem.W.fnOf "law" "law" (defArgs s_law) (defBody s_law) (defScope s_law) .none kV24 dc24 pm24 an24 cd24 ct24, fun s v => .of_eq rfl, fun base _ _ => ?_⟩
  have K_Disk_init : Mkr l.prog w K mg base 1 ((cEnv C0 C1 C2 C3).cls "Disk") ["self"] (sp_Disk_init K (cEnv C0 C1 C2 C3)) := ⟨_, _, ⟨mk1, a0, i0, kc1⟩, F0.binds (ps := ["self"]) (fun _ _ _ _ _ _ us hl => match us, hl with | [_], _ => rfl), ok_Disk_init F0⟩
  have D_law_row : Dfn l.prog w K mg base 1 "_law_row" ["_law_script", "_law_k"] (sp_law_row K) := ⟨_, _, PySem.W.mg_of X G a1, F1.kp, F1.binds (ps := ["_law_script", "_law_k"]) (fun _ _ _ _ _ _ us hl => match us, hl with | [_, _], _ => rfl), ok_law_row m_len m_int F1⟩
  have D_law_next : Dfn l.prog w K mg base 2 "_law_next" ["_law_state", "_law_many"] (sp_law_next K) := ⟨_, _, PySem.W.mg_of X G a2, F2.kp, F2.binds (ps := ["_law_state", "_law_many"]) (fun _ _ _ _ _ _ us hl => match us, hl with | [_, _], _ => rfl), ok_law_next D_law_row m_int F2⟩
  have D_cut_of : Dfn l.prog w K mg base 1 "cut_of" ["cuts", "name"] (sp_cut_of K) := ⟨_, _, PySem.W.mg_of X G a3, F3.kp, F3.binds (ps := ["cuts", "name"]) (fun _ _ _ _ _ _ us hl => match us, hl with | [_, _], _ => rfl), ok_cut_of F3⟩
  have M_File_current : Mth l.prog w K mg base 1 ((cEnv C0 C1 C2 C3).cls "File") "current" ["self"] (sp_File_current K (cEnv C0 C1 C2 C3)) := ⟨_, _, ⟨a4, i4, k4⟩, F4.binds (ps := ["self"]) (fun _ _ _ _ _ _ us hl => match us, hl with | [_], _ => rfl), ok_File_current m_len F4⟩
  have M_File_state : Mth l.prog w K mg base 1 ((cEnv C0 C1 C2 C3).cls "File") "state" ["self", "number"] (sp_File_state K (cEnv C0 C1 C2 C3)) := ⟨_, _, ⟨a5, i5, k5⟩, F5.binds (ps := ["self", "number"]) (fun _ _ _ _ _ _ us hl => match us, hl with | [_, _], _ => rfl), ok_File_state F5⟩
  have D_least_left : Dfn l.prog w K mg base 1 "least_left" ["before", "state"] (sp_least_left K) := ⟨_, _, PySem.W.mg_of X G a6, F6.kp, F6.binds (ps := ["before", "state"]) (fun _ _ _ _ _ _ us hl => match us, hl with | [_, _], _ => rfl), ok_least_left m_len F6⟩
  have D_left_of : Dfn l.prog w K mg base 2 "left_of" ["file", "number", "size"] (sp_left_of K (cEnv C0 C1 C2 C3)) := ⟨_, _, PySem.W.mg_of X G a7, F7.kp, F7.binds (ps := ["file", "number", "size"]) (fun _ _ _ _ _ _ us hl => match us, hl with | [_, _, _], _ => rfl), ok_left_of C_File M_File_current M_File_state D_least_left m_len m_max m_min F7⟩
  have M_Disk_crash : Mth l.prog w K mg base 3 ((cEnv C0 C1 C2 C3).cls "Disk") "crash" ["self", "cuts"] (sp_Disk_crash K (cEnv C0 C1 C2 C3)) := ⟨_, _, ⟨a8, i8, k8⟩, F8.binds (ps := ["self", "cuts"]) (fun _ _ _ _ _ _ us hl => match us, hl with | [_, _], _ => rfl), ok_Disk_crash C_File D_cut_of M_File_current D_left_of F8⟩
  have D_law_left : Dfn l.prog w K mg base 1 "_law_left" ["_law_states", "_law_number", "_law_size"] (sp_law_left K) := ⟨_, _, PySem.W.mg_of X G a9, F9.kp, F9.binds (ps := ["_law_states", "_law_number", "_law_size"]) (fun _ _ _ _ _ _ us hl => match us, hl with | [_, _, _], _ => rfl), ok_law_left m_len m_max F9⟩
  have D_law_crash : Dfn l.prog w K mg base 2 "_law_crash" ["_law_table", "_law_cuts"] (sp_law_crash K (cEnv C0 C1 C2 C3)) := ⟨_, _, PySem.W.mg_of X G a10, F10.kp, F10.binds (ps := ["_law_table", "_law_cuts"]) (fun _ _ _ _ _ _ us hl => match us, hl with | [_, _], _ => rfl), ok_law_crash D_law_left m_len F10⟩
  have D_law_numbers : Dfn l.prog w K mg base 3 "_law_numbers" ["_law_state"] (sp_law_numbers K) := ⟨_, _, PySem.W.mg_of X G a11, F11.kp, F11.binds (ps := ["_law_state"]) (fun _ _ _ _ _ _ us hl => match us, hl with | [_], _ => rfl), ok_law_numbers D_law_next m_range F11⟩
  have D_law_contents : Dfn l.prog w K mg base 1 "_law_contents" ["_law_table", "_law_name"] (sp_law_contents K) := ⟨_, _, PySem.W.mg_of X G a12, F12.kp, F12.binds (ps := ["_law_table", "_law_name"]) (fun _ _ _ _ _ _ us hl => match us, hl with | [_, _], _ => rfl), ok_law_contents m_len F12⟩
  have M_Disk_sync : Mth l.prog w K mg base 2 ((cEnv C0 C1 C2 C3).cls "Disk") "sync" ["self"] (sp_Disk_sync K (cEnv C0 C1 C2 C3)) := ⟨_, _, ⟨a13, i13, k13⟩, F13.binds (ps := ["self"]) (fun _ _ _ _ _ _ us hl => match us, hl with | [_], _ => rfl), ok_Disk_sync C_File M_File_current F13⟩
  have M_Disk_find : Mth l.prog w K mg base 1 ((cEnv C0 C1 C2 C3).cls "Disk") "find" ["self", "name"] (sp_Disk_find K (cEnv C0 C1 C2 C3)) := ⟨_, _, ⟨a14, i14, k14⟩, F14.binds (ps := ["self", "name"]) (fun _ _ _ _ _ _ us hl => match us, hl with | [_, _], _ => rfl), ok_Disk_find F14⟩
  have M_Disk_contents : Mth l.prog w K mg base 2 ((cEnv C0 C1 C2 C3).cls "Disk") "contents" ["self", "name"] (sp_Disk_contents K (cEnv C0 C1 C2 C3)) := ⟨_, _, ⟨a15, i15, k15⟩, F15.binds (ps := ["self", "name"]) (fun _ _ _ _ _ _ us hl => match us, hl with | [_, _], _ => rfl), ok_Disk_contents C_Disk C_File M_Disk_find M_File_current F15⟩
  have K_File_init : Mkr l.prog w K mg base 1 ((cEnv C0 C1 C2 C3).cls "File") ["self", "name"] (sp_File_init K (cEnv C0 C1 C2 C3)) := ⟨_, _, ⟨mk0, a16, i16, kc0⟩, F16.binds (ps := ["self", "name"]) (fun _ _ _ _ _ _ us hl => match us, hl with | [_, _], _ => rfl), ok_File_init F16⟩
  have M_Disk_write : Mth l.prog w K mg base 3 ((cEnv C0 C1 C2 C3).cls "Disk") "write" ["self", "name", "state"] (sp_Disk_write K (cEnv C0 C1 C2 C3)) := ⟨_, _, ⟨a17, i17, k17⟩, F17.binds (ps := ["self", "name", "state"]) (fun _ _ _ _ _ _ us hl => match us, hl with | [_, _, _], _ => rfl), ok_Disk_write C_Disk C_File M_Disk_find K_File_init F17⟩
  have M_Disk_ask_file : Mth l.prog w K mg base 4 ((cEnv C0 C1 C2 C3).cls "Disk") "ask_file" ["self", "word", "operation"] (sp_Disk_ask_file K (cEnv C0 C1 C2 C3)) := ⟨_, _, ⟨a18, i18, k18⟩, F18.binds (ps := ["self", "word", "operation"]) (fun _ _ _ _ _ _ us hl => match us, hl with | [_, _, _], _ => rfl), ok_Disk_ask_file C_Disk M_Disk_contents M_Disk_write m_list F18⟩
  have M_Disk_ask : MthX l.prog w K mg base 5 ((cEnv C0 C1 C2 C3).cls "Disk") "ask" ["self", "operation"] (sp_Disk_ask K (cEnv C0 C1 C2 C3)) := ⟨_, _, ⟨a19, i19, k19⟩, F19.binds (ps := ["self", "operation"]) (fun _ _ _ _ _ _ us hl => match us, hl with | [_, _], _ => rfl), ok_Disk_ask E_InvalidOperation C_File C_Disk M_File_current M_Disk_sync M_Disk_ask_file g_WORDS F19⟩
  have D_law_asked : Dfn l.prog w K mg base 6 "_law_asked" ["_law_disk", "_law_operation"] (sp_law_asked K (cEnv C0 C1 C2 C3)) := ⟨_, _, PySem.W.mg_of X G a20, F20.kp, F20.binds (ps := ["_law_disk", "_law_operation"]) (fun _ _ _ _ _ _ us hl => match us, hl with | [_, _], _ => rfl), ok_law_asked N_InvalidOperation T_InvalidOperation N_SurenearError T_SurenearError C_Disk M_Disk_ask F20⟩
  have D_law_write : Dfn l.prog w K mg base 1 "_law_write" ["_law_table", "_law_name", "_law_worth"] (sp_law_write K (cEnv C0 C1 C2 C3)) := ⟨_, _, PySem.W.mg_of X G a21, F21.kp, F21.binds (ps := ["_law_table", "_law_name", "_law_worth"]) (fun _ _ _ _ _ _ us hl => match us, hl with | [_, _, _], _ => rfl), ok_law_write F21⟩
  have D_law_step : Dfn l.prog w K mg base 7 "_law_step" ["_law_state", "_law_disk", "_law_table"] (sp_law_step K (cEnv C0 C1 C2 C3)) := ⟨_, _, PySem.W.mg_of X G a22, F22.kp, F22.binds (ps := ["_law_state", "_law_disk", "_law_table"]) (fun _ _ _ _ _ _ us hl => match us, hl with | [_, _, _], _ => rfl), ok_law_step D_law_next D_law_numbers D_law_contents D_law_asked D_law_write m_len m_list F22⟩
  have M_Disk_files : Mth l.prog w K mg base 2 ((cEnv C0 C1 C2 C3).cls "Disk") "files" ["self"] (sp_Disk_files K (cEnv C0 C1 C2 C3)) := ⟨_, _, ⟨a23, i23, k23⟩, F23.binds (ps := ["self"]) (fun _ _ _ _ _ _ us hl => match us, hl with | [_], _ => rfl), ok_Disk_files C_File M_File_current m_list F23⟩
  exact ok_law C_Disk K_Disk_init D_law_next M_Disk_crash D_law_crash D_law_step M_Disk_files m_list m_range m_len F24
theorem walk {l : PySem.W.OpenLaw} {q : Program} {loose : List Str} {XP : (Str → Option Value) → Heap → Prop} {YP : World → Heap → Prop} {d : DefRec} {K : Params → PySem.W.Frag} (hn : l.most = some 63) (hdf : d.params.defaults = [])
    (hY : ∀ (w : World) (h : Heap), YP w h → (K w.params).In h)
    (F : ∀ (w : World) (mg : Str → Option Value) (fa : Addr) (h : Heap), (K w.params).In h → h.Ns mainGlobals mg → mg d.name = some (.ref fa) →
      ∃ fd : FuncData, (∀ (s : Shared) (u : Value), BindsTo s fd ⟨[u], []⟩ [("_law_script", u)]) ∧ ∀ base : Heap, (K w.params).In base → base.Ns mainGlobals mg → FnOk l.prog w (K w.params) mg base CX0 8 fa fd ["_law_script"] (sp_law (K w.params))) :
    PySem.W.WalkO q loose XP YP l.row.toRowW d [] (fun f vs => PySem.call f vs) :=
  L2.walk_of (n := 63) (k := 8) (x := "_law_script") (CX := fun _ => CX0) (sp := fun w => sp_law (K w.params)) hn (by decide) hdf ⟨rfl, by decide, by decide⟩ hY F (fun _ _ a ns hl _ hS => ⟨a, ns, rfl, hS, hl, fun _ => rfl⟩) fun _ _ _ _ _ z => z
end Z
open PySem PySem.W PyProof.Rows
set_option maxRecDepth 100000 in
set_option maxHeartbeats 0 in
theorem PySem.Challenge.cw_surenear_k38_disks_do_what_they_are_aske_holds : PySem.Challenge.rw_surenear_k38_disks_do_what_they_are_aske.Holds := by
  w_on; o_law; k_head; (case hw => w_witness2)
  k_fill
  refine Z.walk (l := PySem.Challenge.rw_surenear_k38_disks_do_what_they_are_aske) rfl rfl (fun w h Y => PySem.W.kIn_of Y) ?F
  case F =>
    intro w mg fa h KX G hmg
    refine' Z.all_mk KX G hmg ?b0 ?pg0 ?hd0 ?po0 ?sa0 ?ha0 ?hm0 ?mk0 ?kc0 ?n0_0 ?n0_1 ?n0_2 ?b1 ?pg1 ?hd1 ?po1 ?sa1 ?ha1 ?hm1 ?mk1 ?kc1 ?n1_0 ?b2 ?xq2 ?kc2 ?xb2 ?xt2 ?xi2 ?xs2_2 ?b3 ?xb3 ?xt3 ?xi3 ?xs3_2 ?hn ?htk ?a0 ?i0 ?l0 ?c0 ?k0 ?a1 ?l1 ?c1 ?k1 ?a2 ?l2 ?c2 ?k2 ?a3 ?l3 ?c3 ?k3 ?a4 ?i4 ?l4 ?c4 ?k4 ?a5 ?i5 ?l5 ?c5 ?k5 ?a6 ?l6 ?c6 ?k6 ?a7 ?l7 ?c7 ?k7 ?a8 ?i8 ?l8 ?c8 ?k8 ?a9 ?l9 ?c9 ?k9 ?a10 ?l10 ?c10 ?k10 ?a11 ?l11 ?c11 ?k11 ?a12 ?l12 ?c12 ?k12 ?a13 ?i13 ?l13 ?c13 ?k13 ?a14 ?i14 ?l14 ?c14 ?k14 ?a15 ?i15 ?l15 ?c15 ?k15 ?a16 ?i16 ?l16 ?c16 ?k16 ?a17 ?i17 ?l17 ?c17 ?k17 ?a18 ?i18 ?l18 ?c18 ?k18 ?a19 ?i19 ?l19 ?c19 ?k19 ?a20 ?l20 ?c20 ?k20 ?a21 ?l21 ?c21 ?k21 ?a22 ?l22 ?c22 ?k22 ?a23 ?i23 ?l23 ?c23 ?k23 ?a24 ?l24 ?c24 ?k24 ?z0 ?z1 ?z2 ?z3 ?z4 ?z5 ?kg0 ?kl0
    (case b0 => k_is)
    (case pg0 => k_is)
    (case hd0 => k_is)
    (case po0 => k_is)
    (case sa0 => k_is)
    (case ha0 => k_is)
    (case hm0 => k_is)
    (case mk0 => k_is)
    (case kc0 => k_is)
    (case n0_0 => k_is)
    (case n0_1 => k_is)
    (case n0_2 => k_is)
    (case b1 => k_is)
    (case pg1 => k_is)
    (case hd1 => k_is)
    (case po1 => k_is)
    (case sa1 => k_is)
    (case ha1 => k_is)
    (case hm1 => k_is)
    (case mk1 => k_is)
    (case kc1 => k_is)
    (case n1_0 => k_is)
    (case b2 => k_is)
    (case xq2 => k_exc)
    (case kc2 => k_is)
    (case xb2 => k_is)
    (case xt2 => k_is)
    (case xi2 => k_is)
    (case xs2_2 => k_is)
    (case b3 => k_is)
    (case xb3 => k_is)
    (case xt3 => k_is)
    (case xi3 => k_is)
    (case xs3_2 => k_is)
    (case hn => k_is)
    (case htk => k_is)
    (case a0 => k_is)
    (case i0 => k_is)
    (case l0 => k_is)
    (case c0 => k_is)
    (case k0 => k_is)
    (case a1 => k_is)
    (case l1 => k_is)
    (case c1 => k_is)
    (case k1 => k_is)
    (case a2 => k_is)
    (case l2 => k_is)
    (case c2 => k_is)
    (case k2 => k_is)
    (case a3 => k_is)
    (case l3 => k_is)
    (case c3 => k_is)
    (case k3 => k_is)
    (case a4 => k_is)
    (case i4 => k_is)
    (case l4 => k_is)
    (case c4 => k_is)
    (case k4 => k_is)
    (case a5 => k_is)
    (case i5 => k_is)
    (case l5 => k_is)
    (case c5 => k_is)
    (case k5 => k_is)
    (case a6 => k_is)
    (case l6 => k_is)
    (case c6 => k_is)
    (case k6 => k_is)
    (case a7 => k_is)
    (case l7 => k_is)
    (case c7 => k_is)
    (case k7 => k_is)
    (case a8 => k_is)
    (case i8 => k_is)
    (case l8 => k_is)
    (case c8 => k_is)
    (case k8 => k_is)
    (case a9 => k_is)
    (case l9 => k_is)
    (case c9 => k_is)
    (case k9 => k_is)
    (case a10 => k_is)
    (case l10 => k_is)
    (case c10 => k_is)
    (case k10 => k_is)
    (case a11 => k_is)
    (case l11 => k_is)
    (case c11 => k_is)
    (case k11 => k_is)
    (case a12 => k_is)
    (case l12 => k_is)
    (case c12 => k_is)
    (case k12 => k_is)
    (case a13 => k_is)
    (case i13 => k_is)
    (case l13 => k_is)
    (case c13 => k_is)
    (case k13 => k_is)
    (case a14 => k_is)
    (case i14 => k_is)
    (case l14 => k_is)
    (case c14 => k_is)
    (case k14 => k_is)
    (case a15 => k_is)
    (case i15 => k_is)
    (case l15 => k_is)
    (case c15 => k_is)
    (case k15 => k_is)
    (case a16 => k_is)
    (case i16 => k_is)
    (case l16 => k_is)
    (case c16 => k_is)
    (case k16 => k_is)
    (case a17 => k_is)
    (case i17 => k_is)
    (case l17 => k_is)
    (case c17 => k_is)
    (case k17 => k_is)
    (case a18 => k_is)
    (case i18 => k_is)
    (case l18 => k_is)
    (case c18 => k_is)
    (case k18 => k_is)
    (case a19 => k_is)
    (case i19 => k_is)
    (case l19 => k_is)
    (case c19 => k_is)
    (case k19 => k_is)
    (case a20 => k_is)
    (case l20 => k_is)
    (case c20 => k_is)
    (case k20 => k_is)
    (case a21 => k_is)
    (case l21 => k_is)
    (case c21 => k_is)
    (case k21 => k_is)
    (case a22 => k_is)
    (case l22 => k_is)
    (case c22 => k_is)
    (case k22 => k_is)
    (case a23 => k_is)
    (case i23 => k_is)
    (case l23 => k_is)
    (case c23 => k_is)
    (case k23 => k_is)
    (case a24 => k_is)
    (case l24 => k_is)
    (case c24 => k_is)
    (case k24 => k_is)
    (case z0 => k_is)
    (case z1 => k_is)
    (case z2 => k_is)
    (case z3 => k_is)
    (case z4 => k_is)
    (case z5 => k_is)
    (case kg0 => k_is)
    (case kl0 => k_is)

