import PyProof.Rows.All
import Wide.All
import OpenK.AllK
import Wide.FinOn
import Wide.Once
import HandS.Words
import HandS.Head0
import HandS.Head1
import HandS.Head2
import KE.KNestM
import HandS.EndTab
import HandS.ForExc
import HandS.ForMost
import HandS.Wide
import HandS.IsInst
import HandS.TupAny
import HandS.Flow
import HandS.Codes
import HandS.Zip
import HandS.TupLe
import HandS.Property
import HandS.OwnEq
import KE.GoesMore
import HandS.Defaults
import HandS.MakeKwOnly
import HandS.More
import HandS.TryMany
import HandS.RaiseMore
import HandS.Lambda
import KE.GoesNew
import KE.SortKeyHeap
import HandS.SortKw
import HandS.ClsMeth
import HandS.New0
import HandS.Conv
import PySem.Challenge.RW_surenear_k30_lists
set_option Elab.async false
set_option linter.all false
set_option maxRecDepth 100000
set_option maxHeartbeats 4000000
set_option exponentiation.threshold 100000
namespace ZH
open PySem PySem.W PySem.Calls PyProof.Rows
abbrev nd := PySem.W.BT.node
abbrev lf := PySem.W.BT.nil
abbrev zd (P : Params) (s : PySem.Str) (t : Nat) (v : Value) : DictEntry := ⟨PyData.keyHash P s, .str s t, v⟩
abbrev zf (st : Stmt) (name qual : PySem.Str) (g : Nat) (cl : List (PySem.Str × Addr)) (d kd doc pm : Value) (an : Option Addr) (cd ct : Value) (bi : Nat) : FuncData :=
  ⟨name, qual, L2.defArgs st, .stmts (L2.defBody st), L2.defScope st, g, cl, d, kd, doc, pm, an, cd, ct, bi⟩
abbrev looksH := HandSHeadRun.looksF
noncomputable abbrev seenH := HandSHeadRun.seenQ
theorem seg_q {p : Program} {w : World} {n0 n b : Nat} {ann : Option Value} {s : SharedT} {l : List Stmt} {env : Env} {c : Code} {pos : Pos} {B : List Frame} {r : Option (Flow × SharedT × Code × Pos)}
    (h : PySem.W.Fast.tw10110043849684766642 PySem.W.Fast.tw14364793385576792824 p w n0 ann b n s ⟨(PySem.W.Fast.tw12563942051412417395 l env).wrap doneF deadEnd id id, c, pos, B⟩ = r) :
    segRunT treeTable p w n0 ann b n s (piecesOf l env c pos B) = r := by
  have e1 : @segRunT = PySem.W.Fast.tw10110043849684766642 := PySem.W.Fast.te10110043849684766642
  have e2 : @treeTable = PySem.W.Fast.tw14364793385576792824 := PySem.W.Fast.te14364793385576792824
  have e3 : @execs = PySem.W.Fast.tw12563942051412417395 := PySem.W.Fast.te12563942051412417395
  rw [← h, ← e1, ← e2, ← e3]
theorem looks_run {p q : Program} {w : World} {os : OsState} {loose : List PySem.Str} {Xt : Shared → Bool} {K : Params → PySem.W.Frag} {as : List Addr} {ek : ∀ P, as = (K P).map (·.1)} {M n0 : Nat} {ann : Option Value} {s : SharedT}
    (r : topRun treeTable p w n0 ann M ⟨boot_heap w.params, #[], boot_drawn, boot_toks, os⟩ (topStub p) = some s.abs)
    (h : (looksH p (boot_heap w.params) s.abs, seenH q loose (importedModules p.main.body) Xt s.abs, as.map (HandSHeadRun.getT s)) = (true, openGood q loose, (K w.params).map fun x => some x.2)) :
    ∃ s : Shared, topRun treeTable p w n0 ann M ⟨boot_heap w.params, #[], boot_drawn, boot_toks, os⟩ (topStub p) = some s ∧ looksH p (boot_heap w.params) s = true ∧
      openSeen q loose (importedModules p.main.body) Xt true s = openGood q loose ∧ (kHook K as ek).obs s = (kHook K as ek).val w := by
  obtain ⟨h1, h2⟩ := Prod.mk.inj h
  obtain ⟨h2, h3⟩ := Prod.mk.inj h2
  refine ⟨_, r, h1, (HandSHeadRun.seenQ_eq ..).trans h2, ?_⟩
  refine Eq.trans ?_ h3
  exact List.map_congr_left fun a _ => (HandSHeadRun.getT_eq s a).symm
theorem left_run {p q : Program} {loose : List PySem.Str} {Xt : Shared → Bool} {α : Type} {Yf : Shared → α} {Ya : World → α} {N M n0 : Nat} {ann : Option Value}
    (e : opening p = plainProg p.main.scope.names) (hN : Nat.ble 600 N = true) (f : ∀ s, fenceModules? p s = some s) (le : Nat.ble M N = true)
    (hn : ∀ w : World, (boot_heap w.params).objs.size = n0) (ha : ∀ w : World, (boot_heap w.params).nsMap mainGlobals "__annotations__" = ann)
    (run : ∀ (w : World) (os : OsState), ∃ s : Shared, topRun treeTable p w n0 ann M ⟨boot_heap w.params, #[], boot_drawn, boot_toks, os⟩ (topStub p) = some s ∧ looksH p (boot_heap w.params) s = true ∧
      openSeen q loose (importedModules p.main.body) Xt true s = openGood q loose ∧ Yf s = Ya w) :
    LeftO p q loose Xt Yf Ya N true := by
  intro w
  obtain ⟨⟨hp, gs, dr, tk, os⟩, bo, eq⟩ := Option.map_eq_some_iff.mp (boot_open e hN f w)
  simp only [Prod.mk.injEq] at eq
  obtain ⟨rfl, rfl, rfl, rfl⟩ := eq
  obtain ⟨s, hr, l1, l2, l3⟩ := run w os
  have up := topRun_mono (N - M) _ _ _ _ hr
  have eN : M + (N - M) = N := by have := Nat.le_of_ble_eq_true le; omega
  rw [eN, ← hn w, ← ha w] at up
  have tf : topFrom treeTable p w N ⟨boot_heap w.params, #[], boot_drawn, boot_toks, os⟩ = some s := by
    unfold topFrom
    have b1 : ((boot_heap w.params).isNs mainGlobals && (#[] : Array GenState).size == 0) = true := by rw [HandSHeadRun.boot_ns]; rfl
    simp only [b1, up, Option.bind_some]
    have l1' := l1
    unfold looksH HandSHeadRun.looksF at l1'
    rw [l1']
  have oe : openEnds treeTable p w N = some s := by
    unfold openEnds
    rw [bo]
    exact tf
  show (openEnds treeTable p w N).map _ = _
  rw [oe]
  exact congrArg some (Prod.ext l2 l3)
theorem head_run {r : OpenRow} {q : Program} {K : Params → PySem.W.Frag} {as : List Addr} {ek : ∀ P, as = (K P).map (·.1)} {N : Nat} {loose : List PySem.Str} {d : DefRec} {kwd : List (PySem.Str × PySem.Expr)}
    (left : LeftO r.prog q loose (fun s => xlAt q [] s && recOk r.toRowW.records s) (kHook K as ek).obs (kHook K as ek).val N true)
    (hdef : defOf q r.name = some (d, kwd)) (hp : r.prog.theDef r.name = some (d.params, d.body, d.scope)) (hk : kwWritten? d.params.kwonlyargs d.params.kw_defaults = some kwd)
    (hwr : (!r.writes || r.records.isEmpty) = true) (k1 : r.wellSaid = true) (ok : (chainsOk q && opensWell r.prog && (frees r.toRowW && r.within.isEmpty)) = true) (hb : r.prog.bare) (hw : r.toRowW.promised)
    (call : WalkO q loose (XL q []) (kHook K as ek).says r.toRowW d kwd fun f vs => PySem.call f vs) : r.Holds :=
  holds_open left (kHook K as ek).of (kHook K as ek).keeps (fun s z => xl_of s ((Bool.and_eq_true_iff.mp z).1)) XL.keeps hdef hp hk
    (fun s z => recFacts_of ((Bool.and_eq_true_iff.mp z).2)) hwr k1 ok hb hw call
/-! the same, the tables of code objects told -/
theorem looks_runT {p q : Program} {w : World} {os : OsState} {loose : List PySem.Str} {Xt : Shared → Bool} {K : Params → PySem.W.Frag} {as : List Addr} {ek : ∀ P, as = (K P).map (·.1)} {ts : List Addr} {M n0 : Nat} {ann : Option Value} {s : SharedT}
    (r : topRun treeTable p w n0 ann M ⟨boot_heap w.params, #[], boot_drawn, boot_toks, os⟩ (topStub p) = some s.abs)
    (h : (looksH p (boot_heap w.params) s.abs, seenH q loose (importedModules p.main.body) Xt s.abs, as.map (HandSHeadRun.getT s), ts.map (HandSHeadRun.getT s)) = (true, openGood q loose, (K w.params).map (fun x => some x.2), ts.map fun _ => some (tabObj #[]))) :
    ∃ s : Shared, topRun treeTable p w n0 ann M ⟨boot_heap w.params, #[], boot_drawn, boot_toks, os⟩ (topStub p) = some s ∧ looksH p (boot_heap w.params) s = true ∧
      openSeen q loose (importedModules p.main.body) Xt true s = openGood q loose ∧ (kmHook K as ek ts).obs s = (kmHook K as ek ts).val w := by
  obtain ⟨h1, h2⟩ := Prod.mk.inj h
  obtain ⟨h2, h3⟩ := Prod.mk.inj h2
  obtain ⟨h3, h4⟩ := Prod.mk.inj h3
  refine ⟨_, r, h1, (HandSHeadRun.seenQ_eq ..).trans h2, Prod.ext (Eq.trans ?_ h3) (Eq.trans ?_ h4)⟩
  · exact List.map_congr_left fun a _ => (HandSHeadRun.getT_eq s a).symm
  · exact List.map_congr_left fun a _ => (HandSHeadRun.getT_eq s a).symm
theorem head_runT {r : OpenRow} {q : Program} {K : Params → PySem.W.Frag} {as : List Addr} {ek : ∀ P, as = (K P).map (·.1)} {ts : List Addr} {N : Nat} {loose : List PySem.Str} {d : DefRec} {kwd : List (PySem.Str × PySem.Expr)}
    (left : LeftO r.prog q loose (fun s => xlAt q [] s && recOk r.toRowW.records s) (kmHook K as ek ts).obs (kmHook K as ek ts).val N true)
    (hdef : defOf q r.name = some (d, kwd)) (hp : r.prog.theDef r.name = some (d.params, d.body, d.scope)) (hk : kwWritten? d.params.kwonlyargs d.params.kw_defaults = some kwd)
    (hwr : (!r.writes || r.records.isEmpty) = true) (k1 : r.wellSaid = true) (ok : (chainsOk q && opensWell r.prog && (frees r.toRowW && r.within.isEmpty)) = true) (hb : r.prog.bare) (hw : r.toRowW.promised)
    (call : WalkO q loose (XL q []) (kmHook K as ek ts).says r.toRowW d kwd fun f vs => PySem.call f vs) : r.Holds :=
  holds_open left (kmHook K as ek ts).of (kmHook K as ek ts).keeps (fun s z => xl_of s ((Bool.and_eq_true_iff.mp z).1)) XL.keeps hdef hp hk
    (fun s z => recFacts_of ((Bool.and_eq_true_iff.mp z).2)) hwr k1 ok hb hw call
end ZH
noncomputable section
namespace ZH
open PySem PySem.W PySem.Calls PyProof.Rows
abbrev RR : OpenRow := OpenLaw.row PySem.Challenge.rw_surenear_k30_lists
abbrev pr : Program := RR.prog
def tS (i : Nat) : Stmt := pr.main.body.getD i (.Pass ⟨0, 0, 0, 0⟩)
def mS (i j : Nat) : Stmt := L2.inClass (tS i) j
def o11_0 (P : Params) : Obj := ⟨(.type "tuple"), none, (.seq #[] 0), #[]⟩
def o12_0 (P : Params) : Obj := ⟨.none, none, (.fields #[]), #[]⟩
def o13_0 (P : Params) : Obj := ⟨(.type "code"), none, (.fields #[(.str "<module>" 182), (.str "<module>" 183), (.str "/claim/cut.py" 184), (.int 1 0), (.int 0 0), (.int 0 0), (.int 0 0), (.int 0 0), (.ref 11), (.bool false), (.int 181 0), (.ref 12), .none, .none, .none, .none, (.int 185 0), (.int 1 0), (.str "/claim/cut.py" 186)]), #[]⟩
def o14_0 (P : Params) : Obj := ⟨(.type "frame"), none, .plain, #[(some (.ref 13)), (some (.ref 3)), (some (.ref 3)), none, (some (.str "__main__" 164)), none, (some (.ref 0))]⟩
def tA (P : Params) : BT := (nd (PySem.W.boot_o_0 P) (nd (PySem.W.boot_o_1 P) (nd (PySem.W.boot_o_3 P) (nd (PySem.W.boot_o_7 P) lf lf) (nd (o11_0 P) lf lf)) (nd (PySem.W.boot_o_5 P) (nd (PySem.W.boot_o_9 P) lf lf) (nd (o13_0 P) lf lf))) (nd (PySem.W.boot_o_2 P) (nd (PySem.W.boot_o_4 P) (nd (PySem.W.boot_o_8 P) lf lf) (nd (o12_0 P) lf lf)) (nd (PySem.W.boot_o_6 P) (nd (PySem.W.boot_o_10 P) lf lf) (nd (o14_0 P) lf lf))))
def sA (w : World) (os : OsState) : SharedT := ⟨tA w.params, 15, { }, #[], ⟨0, 0, 0, 0⟩, 187, os⟩
def annV : Option Value := (some (.ref 6))
abbrev bE : List Stmt := behindTheImports pr
def env : Env := { scope := pr.main.scope, locals := mainNs, globals := mainNs, cells := [], code := (.ref 13), frame := some 14 }
abbrev cE : Code := .body bE env
abbrev fB : List Frame := [topFrame ⟨0, 0, 0, 0⟩]
theorem pre (w : World) (os : OsState) : topGo treeTable pr w 11 annV 12 ⟨boot_heap w.params, #[], boot_drawn, boot_toks, os⟩ (topStub pr) = some ((sA w os).abs, ⟨denote treeTable cE, cE, ⟨0, 0, 0, 0⟩, fB⟩) := by kernel_rfl
theorem blk (w : World) (os : OsState) : segRun treeTable pr w 11 annV 1 1 (sA w os).abs (blockOf bE env cE ⟨0, 0, 0, 0⟩ fB) = some (.next, (sA w os).abs, cE, ⟨0, 0, 0, 0⟩) := by kernel_rfl
def o3_0 (P : Params) : Obj := ⟨(.type "dict"), none, (.dict (List.toArray (zd P "__name__" 165 (.str "surenear.records.schema" 498) :: zd P "__doc__" 166 .none :: zd P "__package__" 167 .none :: zd P "__loader__" 168 (.builtin "__main__.__loader__#opaque") :: zd P "__spec__" 169 .none :: zd P "__annotations__" 170 (.ref 6) :: zd P "__builtins__" 171 (.ref 4) :: zd P "__file__" 173 (.str "/claim/cut.py" 172) :: zd P "__cached__" 174 .none :: zd P "_wall" 193 (.ref 21) :: zd P "distance" 206 (.ref 28) :: zd P "Sketch" 239 (.ref 46) :: zd P "Layout" 270 (.ref 67) :: zd P "nearest" 282 (.ref 78) :: zd P "mean" 288 (.ref 83) :: zd P "move" 294 (.ref 88) :: zd P "train" 300 (.ref 93) :: zd P "SurenearError" 320 (.ref 103) :: zd P "InvalidSchema" 336 (.ref 116) :: zd P "InvalidRule" 352 (.ref 128) :: zd P "check_rule" 363 (.ref 137) :: zd P "neighbours" 369 (.ref 142) :: zd P "Lists" 416 (.ref 165) :: zd P "same_value" 426 (.ref 176) :: zd P "same_fields" 438 (.ref 183) :: zd P "Record" 497 (.ref 222) :: [])) 26), #[]⟩
def o12_1 (P : Params) : Obj := ⟨.none, none, (.fields (List.toArray ((.int 1 0) :: (.int 0 0) :: (.ref 20) :: (.int 5 0) :: (.int 0 0) :: (.ref 27) :: (.int 11 0) :: (.int 0 0) :: (.ref 34) :: (.int 17 0) :: (.int 0 0) :: (.ref 56) :: (.int 23 0) :: (.int 0 0) :: (.ref 77) :: (.int 29 0) :: (.int 0 0) :: (.ref 82) :: (.int 31 0) :: (.int 0 0) :: (.ref 87) :: (.int 38 0) :: (.int 0 0) :: (.ref 92) :: (.int 46 0) :: (.int 0 0) :: (.ref 99) :: (.int 48 0) :: (.int 0 0) :: (.ref 112) :: (.int 50 0) :: (.int 0 0) :: (.ref 124) :: (.int 53 0) :: (.int 0 0) :: (.ref 136) :: (.int 60 0) :: (.int 0 0) :: (.ref 141) :: (.int 64 0) :: (.int 0 0) :: (.ref 148) :: (.int 90 0) :: (.int 0 0) :: (.ref 175) :: (.int 92 0) :: (.int 0 0) :: (.ref 182) :: (.int 99 0) :: (.int 0 0) :: (.ref 189) :: []))), #[]⟩
def o15_0 (P : Params) : Obj := ⟨(.type "tuple"), none, (.seq #[] 0), #[]⟩
def o16_0 (P : Params) : Obj := ⟨.none, none, (.fields #[]), #[]⟩
def o17_0 (P : Params) : Obj := ⟨(.type "tuple"), none, (.seq #[(.str "k" 190)] 0), #[]⟩
def o18_0 (P : Params) : Obj := ⟨(.type "tuple"), none, (.seq #[] 0), #[]⟩
def o19_0 (P : Params) : Obj := ⟨.none, none, (.func (zf (tS 0) "_wall" "_wall" 0 [] .none .none .none .none none .none .none 0)), #[]⟩
def o20_0 (P : Params) : Obj := ⟨(.type "code"), none, (.fields #[(.str "_wall" 187), (.str "_wall" 188), (.str "/claim/cut.py" 189), (.int 1 0), (.int 1 0), (.int 0 0), (.int 0 0), (.int 3 0), (.ref 15), (.bool true), (.int 181 0), (.ref 16), .none, (.ref 17), (.ref 18), (.ref 19), (.int 191 0), (.int 1 0), (.str "/claim/cut.py" 192)]), #[]⟩
def o21_0 (P : Params) : Obj := ⟨(.type "function"), none, (.func (zf (tS 0) "_wall" "_wall" 3 [] .none .none .none (.str "__main__" 164) none (.ref 20) .none 0)), #[]⟩
def o22_0 (P : Params) : Obj := ⟨(.type "tuple"), none, (.seq #[] 0), #[]⟩
def o23_0 (P : Params) : Obj := ⟨.none, none, (.fields #[]), #[]⟩
def o24_0 (P : Params) : Obj := ⟨(.type "tuple"), none, (.seq #[(.str "a" 199), (.str "b" 200), (.str "total" 201), (.str "x" 202), (.str "y" 203)] 0), #[]⟩
def o25_0 (P : Params) : Obj := ⟨(.type "tuple"), none, (.seq #[] 0), #[]⟩
def o26_0 (P : Params) : Obj := ⟨.none, none, (.func (zf (tS 2) "distance" "distance" 0 [] .none .none .none .none none .none .none 0)), #[]⟩
def o27_0 (P : Params) : Obj := ⟨(.type "code"), none, (.fields #[(.str "distance" 196), (.str "distance" 197), (.str "/claim/cut.py" 198), (.int 5 0), (.int 2 0), (.int 0 0), (.int 0 0), (.int 3 0), (.ref 22), (.bool true), (.int 181 0), (.ref 23), .none, (.ref 24), (.ref 25), (.ref 26), (.int 204 0), (.int 5 0), (.str "/claim/cut.py" 205)]), #[]⟩
def o28_0 (P : Params) : Obj := ⟨(.type "function"), none, (.func (zf (tS 2) "distance" "distance" 3 [] .none .none .none (.str "surenear.basics.numbers" 194) none (.ref 27) .none 0)), #[]⟩
def o29_0 (P : Params) : Obj := ⟨(.type "tuple"), none, (.seq #[] 0), #[]⟩
def o30_0 (P : Params) : Obj := ⟨(.type "builtin_function_or_method"), none, (.fields #[(.builtin "type.__prepare__"), (.type "type")]), #[]⟩
def o31_0 (P : Params) : Obj := ⟨(.type "dict"), none, (.dict #[zd P "__module__" 216 (.str "surenear.building.layouts" 207), zd P "__qualname__" 218 (.str "Sketch" 217), zd P "__firstlineno__" 220 (.int 11 219), zd P "__init__" 228 (.ref 43), zd P "__static_attributes__" 232 (.ref 44)] 5), #[]⟩
def o32_0 (P : Params) : Obj := ⟨(.type "tuple"), none, (.seq #[] 0), #[]⟩
def o33_0 (P : Params) : Obj := ⟨.none, none, (.fields #[(.int 13 0), (.int 4 0), (.ref 42)]), #[]⟩
def o34_0 (P : Params) : Obj := ⟨(.type "code"), none, (.fields #[(.str "Sketch" 211), (.str "Sketch" 212), (.str "/claim/cut.py" 213), (.int 11 0), (.int 0 0), (.int 0 0), (.int 0 0), (.int 0 0), (.ref 32), (.bool false), (.int 181 0), (.ref 33), .none, .none, .none, .none, (.int 214 0), (.int 11 0), (.str "/claim/cut.py" 215)]), #[]⟩
def o35_0 (P : Params) : Obj := ⟨(.type "frame"), none, .plain, #[(some (.ref 34)), (some (.ref 3)), (some (.ref 31)), none, (some (.str "surenear.building.layouts" 207)), none, (some (.ref 0))]⟩
def o36_0 (P : Params) : Obj := ⟨(.type "tuple"), none, (.seq #[] 0), #[]⟩
def o37_0 (P : Params) : Obj := ⟨(.type "tuple"), none, (.seq #[] 0), #[]⟩
def o38_0 (P : Params) : Obj := ⟨(.type "dict"), none, (.dict #[zd P "centres" 221 (.ref 36), zd P "cells" 222 (.ref 37)] 2), #[]⟩
def o39_0 (P : Params) : Obj := ⟨(.type "tuple"), none, (.seq #[] 0), #[]⟩
def o40_0 (P : Params) : Obj := ⟨.none, none, (.fields #[]), #[]⟩
def o41_0 (P : Params) : Obj := ⟨.none, none, (.func (zf (mS 4 0) "__init__" "Sketch.__init__" 0 [] .none .none .none .none none .none .none 0)), #[]⟩
def o42_0 (P : Params) : Obj := ⟨(.type "code"), none, (.fields #[(.str "__init__" 223), (.str "Sketch.__init__" 224), (.str "/claim/cut.py" 225), (.int 13 0), (.int 2 0), (.int 0 0), (.int 2 0), (.int 3 0), (.ref 39), (.bool true), (.int 181 0), (.ref 40), .none, .none, .none, (.ref 41), (.int 226 0), (.int 13 0), (.str "/claim/cut.py" 227)]), #[]⟩
def o43_0 (P : Params) : Obj := ⟨(.type "function"), none, (.func (zf (mS 4 0) "__init__" "Sketch.__init__" 3 [] .none (.ref 38) .none (.str "surenear.building.layouts" 207) none (.ref 42) .none 0)), #[]⟩
def o44_0 (P : Params) : Obj := ⟨(.type "tuple"), none, (.seq #[(.str "cells" 229), (.str "centres" 230), (.str "parent" 231)] 0), #[]⟩
def o45_0 (P : Params) : Obj := ⟨(.type "dict"), none, (.dict #[zd P "__module__" 216 (.str "surenear.building.layouts" 207), zd P "__firstlineno__" 220 (.int 11 219), zd P "__init__" 228 (.ref 43), zd P "__static_attributes__" 232 (.ref 44), zd P "__dict__" 234 (.ref 47), zd P "__weakref__" 236 (.ref 48), zd P "__doc__" 237 .none] 4), #[]⟩
def o46_0 (P : Params) : Obj := ⟨(.type "type"), none, (.cls ⟨"Sketch", [(.type "object")], [(.ref 46), (.type "object")], 45, "Sketch", true, [], [], false, none, false⟩), #[none, none, (some (.str "Sketch" 209)), (some (.str "Sketch" 217)), (some (.builtin "object.__new__")), (some (.bool true))]⟩
def o47_0 (P : Params) : Obj := ⟨(.type "getset_descriptor"), none, (.fields #[(.str "__dict__" 233), (.ref 46), (.builtin "function.__dict__"), (.builtin "function.__dict__#set")]), #[]⟩
def o48_0 (P : Params) : Obj := ⟨(.type "getset_descriptor"), none, (.fields #[(.str "__weakref__" 235), (.ref 46), (.builtin "ExceptionGroup.__weakref__"), .none]), #[]⟩
def o49_0 (P : Params) : Obj := ⟨(.type "super"), none, (.fields #[(.ref 46), (.ref 46), (.ref 46)]), #[]⟩
def o50_0 (P : Params) : Obj := ⟨(.type "builtin_function_or_method"), none, (.fields #[(.builtin "object.__init_subclass__"), (.ref 46)]), #[]⟩
def o51_0 (P : Params) : Obj := ⟨(.type "tuple"), none, (.seq #[] 0), #[]⟩
def o52_0 (P : Params) : Obj := ⟨(.type "builtin_function_or_method"), none, (.fields #[(.builtin "type.__prepare__"), (.type "type")]), #[]⟩
def o53_0 (P : Params) : Obj := ⟨(.type "dict"), none, (.dict #[zd P "__module__" 247 (.str "surenear.building.layouts" 207), zd P "__qualname__" 249 (.str "Layout" 248), zd P "__firstlineno__" 251 (.int 17 250), zd P "__init__" 260 (.ref 64), zd P "__static_attributes__" 263 (.ref 65)] 5), #[]⟩
def o54_0 (P : Params) : Obj := ⟨(.type "tuple"), none, (.seq #[] 0), #[]⟩
def o55_0 (P : Params) : Obj := ⟨.none, none, (.fields #[(.int 19 0), (.int 4 0), (.ref 63)]), #[]⟩
def o56_0 (P : Params) : Obj := ⟨(.type "code"), none, (.fields #[(.str "Layout" 242), (.str "Layout" 243), (.str "/claim/cut.py" 244), (.int 17 0), (.int 0 0), (.int 0 0), (.int 0 0), (.int 0 0), (.ref 54), (.bool false), (.int 181 0), (.ref 55), .none, .none, .none, .none, (.int 245 0), (.int 17 0), (.str "/claim/cut.py" 246)]), #[]⟩
def o57_0 (P : Params) : Obj := ⟨(.type "frame"), none, .plain, #[(some (.ref 56)), (some (.ref 3)), (some (.ref 53)), none, (some (.str "surenear.building.layouts" 207)), none, (some (.ref 0))]⟩
def o58_0 (P : Params) : Obj := ⟨(.type "tuple"), none, (.seq #[] 0), #[]⟩
def o59_0 (P : Params) : Obj := ⟨.none, none, (.fields #[]), #[]⟩
def o60_0 (P : Params) : Obj := ⟨(.type "tuple"), none, (.seq #[(.str "self" 255), (.str "sketches" 256), (.str "leaves" 257)] 0), #[]⟩
def o61_0 (P : Params) : Obj := ⟨(.type "tuple"), none, (.seq #[] 0), #[]⟩
def o62_0 (P : Params) : Obj := ⟨.none, none, (.func (zf (mS 5 0) "__init__" "Layout.__init__" 0 [] .none .none .none .none none .none .none 0)), #[]⟩
def o63_0 (P : Params) : Obj := ⟨(.type "code"), none, (.fields #[(.str "__init__" 252), (.str "Layout.__init__" 253), (.str "/claim/cut.py" 254), (.int 19 0), (.int 3 0), (.int 0 0), (.int 0 0), (.int 3 0), (.ref 58), (.bool true), (.int 181 0), (.ref 59), .none, (.ref 60), (.ref 61), (.ref 62), (.int 258 0), (.int 19 0), (.str "/claim/cut.py" 259)]), #[]⟩
def o64_0 (P : Params) : Obj := ⟨(.type "function"), none, (.func (zf (mS 5 0) "__init__" "Layout.__init__" 3 [] .none .none .none (.str "surenear.building.layouts" 207) none (.ref 63) .none 0)), #[]⟩
def o65_0 (P : Params) : Obj := ⟨(.type "tuple"), none, (.seq #[(.str "leaves" 261), (.str "sketches" 262)] 0), #[]⟩
def o66_0 (P : Params) : Obj := ⟨(.type "dict"), none, (.dict #[zd P "__module__" 247 (.str "surenear.building.layouts" 207), zd P "__firstlineno__" 251 (.int 17 250), zd P "__init__" 260 (.ref 64), zd P "__static_attributes__" 263 (.ref 65), zd P "__dict__" 265 (.ref 68), zd P "__weakref__" 267 (.ref 69), zd P "__doc__" 268 .none] 4), #[]⟩
def o67_0 (P : Params) : Obj := ⟨(.type "type"), none, (.cls ⟨"Layout", [(.type "object")], [(.ref 67), (.type "object")], 66, "Layout", true, [], [], false, none, false⟩), #[none, none, (some (.str "Layout" 240)), (some (.str "Layout" 248)), (some (.builtin "object.__new__")), (some (.bool true))]⟩
def o68_0 (P : Params) : Obj := ⟨(.type "getset_descriptor"), none, (.fields #[(.str "__dict__" 264), (.ref 67), (.builtin "function.__dict__"), (.builtin "function.__dict__#set")]), #[]⟩
def o69_0 (P : Params) : Obj := ⟨(.type "getset_descriptor"), none, (.fields #[(.str "__weakref__" 266), (.ref 67), (.builtin "ExceptionGroup.__weakref__"), .none]), #[]⟩
def o70_0 (P : Params) : Obj := ⟨(.type "super"), none, (.fields #[(.ref 67), (.ref 67), (.ref 67)]), #[]⟩
def o71_0 (P : Params) : Obj := ⟨(.type "builtin_function_or_method"), none, (.fields #[(.builtin "object.__init_subclass__"), (.ref 67)]), #[]⟩
def o72_0 (P : Params) : Obj := ⟨(.type "tuple"), none, (.seq #[] 0), #[]⟩
def o73_0 (P : Params) : Obj := ⟨.none, none, (.fields #[]), #[]⟩
def o74_0 (P : Params) : Obj := ⟨(.type "tuple"), none, (.seq #[(.str "centres" 276), (.str "vector" 277), (.str "best" 278), (.str "place" 279)] 0), #[]⟩
def o75_0 (P : Params) : Obj := ⟨(.type "tuple"), none, (.seq #[] 0), #[]⟩
def o76_0 (P : Params) : Obj := ⟨.none, none, (.func (zf (tS 7) "nearest" "nearest" 0 [] .none .none .none .none none .none .none 0)), #[]⟩
def o77_0 (P : Params) : Obj := ⟨(.type "code"), none, (.fields #[(.str "nearest" 273), (.str "nearest" 274), (.str "/claim/cut.py" 275), (.int 23 0), (.int 2 0), (.int 0 0), (.int 0 0), (.int 3 0), (.ref 72), (.bool true), (.int 181 0), (.ref 73), .none, (.ref 74), (.ref 75), (.ref 76), (.int 280 0), (.int 23 0), (.str "/claim/cut.py" 281)]), #[]⟩
def o78_0 (P : Params) : Obj := ⟨(.type "function"), none, (.func (zf (tS 7) "nearest" "nearest" 3 [] .none .none .none (.str "surenear.building.training" 271) none (.ref 77) .none 0)), #[]⟩
def o79_0 (P : Params) : Obj := ⟨(.type "tuple"), none, (.seq #[] 0), #[]⟩
def o80_0 (P : Params) : Obj := ⟨.none, none, (.fields #[]), #[]⟩
def o81_0 (P : Params) : Obj := ⟨.none, none, (.func (zf (tS 8) "mean" "mean" 0 [] .none .none .none .none none .none .none 0)), #[]⟩
def o82_0 (P : Params) : Obj := ⟨(.type "code"), none, (.fields #[(.str "mean" 283), (.str "mean" 284), (.str "/claim/cut.py" 285), (.int 29 0), (.int 1 0), (.int 0 0), (.int 0 0), (.int 3 0), (.ref 79), (.bool true), (.int 181 0), (.ref 80), .none, .none, .none, (.ref 81), (.int 286 0), (.int 29 0), (.str "/claim/cut.py" 287)]), #[]⟩
def o83_0 (P : Params) : Obj := ⟨(.type "function"), none, (.func (zf (tS 8) "mean" "mean" 3 [] .none .none .none (.str "surenear.building.training" 271) none (.ref 82) .none 0)), #[]⟩
def o84_0 (P : Params) : Obj := ⟨(.type "tuple"), none, (.seq #[] 0), #[]⟩
def o85_0 (P : Params) : Obj := ⟨.none, none, (.fields #[]), #[]⟩
def o86_0 (P : Params) : Obj := ⟨.none, none, (.func (zf (tS 9) "move" "move" 0 [] .none .none .none .none none .none .none 0)), #[]⟩
def o87_0 (P : Params) : Obj := ⟨(.type "code"), none, (.fields #[(.str "move" 289), (.str "move" 290), (.str "/claim/cut.py" 291), (.int 31 0), (.int 2 0), (.int 0 0), (.int 0 0), (.int 3 0), (.ref 84), (.bool true), (.int 181 0), (.ref 85), .none, .none, .none, (.ref 86), (.int 292 0), (.int 31 0), (.str "/claim/cut.py" 293)]), #[]⟩
def o88_0 (P : Params) : Obj := ⟨(.type "function"), none, (.func (zf (tS 9) "move" "move" 3 [] .none .none .none (.str "surenear.building.training" 271) none (.ref 87) .none 0)), #[]⟩
def o89_0 (P : Params) : Obj := ⟨(.type "tuple"), none, (.seq #[] 0), #[]⟩
def o90_0 (P : Params) : Obj := ⟨.none, none, (.fields #[]), #[]⟩
def o91_0 (P : Params) : Obj := ⟨.none, none, (.func (zf (tS 10) "train" "train" 0 [] .none .none .none .none none .none .none 0)), #[]⟩
def o92_0 (P : Params) : Obj := ⟨(.type "code"), none, (.fields #[(.str "train" 295), (.str "train" 296), (.str "/claim/cut.py" 297), (.int 38 0), (.int 3 0), (.int 0 0), (.int 0 0), (.int 3 0), (.ref 89), (.bool true), (.int 181 0), (.ref 90), .none, .none, .none, (.ref 91), (.int 298 0), (.int 38 0), (.str "/claim/cut.py" 299)]), #[]⟩
def o93_0 (P : Params) : Obj := ⟨(.type "function"), none, (.func (zf (tS 10) "train" "train" 3 [] .none .none .none (.str "surenear.building.training" 271) none (.ref 92) .none 0)), #[]⟩
def o94_0 (P : Params) : Obj := ⟨(.type "tuple"), none, (.seq #[(.type "ValueError")] 0), #[]⟩
def o95_0 (P : Params) : Obj := ⟨(.type "builtin_function_or_method"), none, (.fields #[(.builtin "type.__prepare__"), (.type "type")]), #[]⟩
def o96_0 (P : Params) : Obj := ⟨(.type "dict"), none, (.dict #[zd P "__module__" 310 (.str "surenear.errors" 301), zd P "__qualname__" 312 (.str "SurenearError" 311), zd P "__firstlineno__" 314 (.int 46 313), zd P "__static_attributes__" 315 (.ref 101)] 4), #[]⟩
def o97_0 (P : Params) : Obj := ⟨(.type "tuple"), none, (.seq #[] 0), #[]⟩
def o98_0 (P : Params) : Obj := ⟨.none, none, (.fields #[]), #[]⟩
def o99_0 (P : Params) : Obj := ⟨(.type "code"), none, (.fields #[(.str "SurenearError" 305), (.str "SurenearError" 306), (.str "/claim/cut.py" 307), (.int 46 0), (.int 0 0), (.int 0 0), (.int 0 0), (.int 0 0), (.ref 97), (.bool false), (.int 181 0), (.ref 98), .none, .none, .none, .none, (.int 308 0), (.int 46 0), (.str "/claim/cut.py" 309)]), #[]⟩
def o100_0 (P : Params) : Obj := ⟨(.type "frame"), none, .plain, #[(some (.ref 99)), (some (.ref 3)), (some (.ref 96)), none, (some (.str "surenear.errors" 301)), none, (some (.ref 0))]⟩
def o101_0 (P : Params) : Obj := ⟨(.type "tuple"), none, (.seq #[] 0), #[]⟩
def o102_0 (P : Params) : Obj := ⟨(.type "dict"), none, (.dict #[zd P "__module__" 310 (.str "surenear.errors" 301), zd P "__firstlineno__" 314 (.int 46 313), zd P "__static_attributes__" 315 (.ref 101), zd P "__weakref__" 317 (.ref 104), zd P "__doc__" 318 .none] 3), #[]⟩
def o103_0 (P : Params) : Obj := ⟨(.type "type"), none, (.cls ⟨"SurenearError", [(.type "ValueError")], [(.ref 103), (.type "ValueError"), (.type "Exception"), (.type "BaseException"), (.type "object")], 102, "SurenearError", true, [], [(.ref 116), (.ref 128)], false, none, false⟩), #[(some (.ref 94)), none, (some (.str "SurenearError" 303)), (some (.str "SurenearError" 311)), (some (.builtin "ValueError.__new__")), (some (.bool true))]⟩
def o104_0 (P : Params) : Obj := ⟨(.type "getset_descriptor"), none, (.fields #[(.str "__weakref__" 316), (.ref 103), (.builtin "ExceptionGroup.__weakref__"), .none]), #[]⟩
def o105_0 (P : Params) : Obj := ⟨(.type "super"), none, (.fields #[(.ref 103), (.ref 103), (.ref 103)]), #[]⟩
def o106_0 (P : Params) : Obj := ⟨(.type "builtin_function_or_method"), none, (.fields #[(.builtin "object.__init_subclass__"), (.ref 103)]), #[]⟩
def o107_0 (P : Params) : Obj := ⟨(.type "tuple"), none, (.seq #[(.ref 103)] 0), #[]⟩
def o108_0 (P : Params) : Obj := ⟨(.type "builtin_function_or_method"), none, (.fields #[(.builtin "type.__prepare__"), (.type "type")]), #[]⟩
def o109_0 (P : Params) : Obj := ⟨(.type "dict"), none, (.dict #[zd P "__module__" 328 (.str "surenear.errors" 301), zd P "__qualname__" 330 (.str "InvalidSchema" 329), zd P "__firstlineno__" 332 (.int 48 331), zd P "__static_attributes__" 333 (.ref 114)] 4), #[]⟩
def o110_0 (P : Params) : Obj := ⟨(.type "tuple"), none, (.seq #[] 0), #[]⟩
def o111_0 (P : Params) : Obj := ⟨.none, none, (.fields #[]), #[]⟩
def o112_0 (P : Params) : Obj := ⟨(.type "code"), none, (.fields #[(.str "InvalidSchema" 323), (.str "InvalidSchema" 324), (.str "/claim/cut.py" 325), (.int 48 0), (.int 0 0), (.int 0 0), (.int 0 0), (.int 0 0), (.ref 110), (.bool false), (.int 181 0), (.ref 111), .none, .none, .none, .none, (.int 326 0), (.int 48 0), (.str "/claim/cut.py" 327)]), #[]⟩
def o113_0 (P : Params) : Obj := ⟨(.type "frame"), none, .plain, #[(some (.ref 112)), (some (.ref 3)), (some (.ref 109)), none, (some (.str "surenear.errors" 301)), none, (some (.ref 0))]⟩
def o114_0 (P : Params) : Obj := ⟨(.type "tuple"), none, (.seq #[] 0), #[]⟩
def o115_0 (P : Params) : Obj := ⟨(.type "dict"), none, (.dict #[zd P "__module__" 328 (.str "surenear.errors" 301), zd P "__firstlineno__" 332 (.int 48 331), zd P "__static_attributes__" 333 (.ref 114), zd P "__doc__" 334 .none] 2), #[]⟩
def o116_0 (P : Params) : Obj := ⟨(.type "type"), none, (.cls ⟨"InvalidSchema", [(.ref 103)], [(.ref 116), (.ref 103), (.type "ValueError"), (.type "Exception"), (.type "BaseException"), (.type "object")], 115, "InvalidSchema", true, [], [], false, none, false⟩), #[(some (.ref 107)), none, (some (.str "InvalidSchema" 321)), (some (.str "InvalidSchema" 329)), (some (.builtin "ValueError.__new__")), (some (.bool true))]⟩
def o117_0 (P : Params) : Obj := ⟨(.type "super"), none, (.fields #[(.ref 116), (.ref 116), (.ref 116)]), #[]⟩
def o118_0 (P : Params) : Obj := ⟨(.type "builtin_function_or_method"), none, (.fields #[(.builtin "object.__init_subclass__"), (.ref 116)]), #[]⟩
def o119_0 (P : Params) : Obj := ⟨(.type "tuple"), none, (.seq #[(.ref 103)] 0), #[]⟩
def o120_0 (P : Params) : Obj := ⟨(.type "builtin_function_or_method"), none, (.fields #[(.builtin "type.__prepare__"), (.type "type")]), #[]⟩
def o121_0 (P : Params) : Obj := ⟨(.type "dict"), none, (.dict #[zd P "__module__" 344 (.str "surenear.errors" 301), zd P "__qualname__" 346 (.str "InvalidRule" 345), zd P "__firstlineno__" 348 (.int 50 347), zd P "__static_attributes__" 349 (.ref 126)] 4), #[]⟩
def o122_0 (P : Params) : Obj := ⟨(.type "tuple"), none, (.seq #[] 0), #[]⟩
def o123_0 (P : Params) : Obj := ⟨.none, none, (.fields #[]), #[]⟩
def o124_0 (P : Params) : Obj := ⟨(.type "code"), none, (.fields #[(.str "InvalidRule" 339), (.str "InvalidRule" 340), (.str "/claim/cut.py" 341), (.int 50 0), (.int 0 0), (.int 0 0), (.int 0 0), (.int 0 0), (.ref 122), (.bool false), (.int 181 0), (.ref 123), .none, .none, .none, .none, (.int 342 0), (.int 50 0), (.str "/claim/cut.py" 343)]), #[]⟩
def o125_0 (P : Params) : Obj := ⟨(.type "frame"), none, .plain, #[(some (.ref 124)), (some (.ref 3)), (some (.ref 121)), none, (some (.str "surenear.errors" 301)), none, (some (.ref 0))]⟩
def o126_0 (P : Params) : Obj := ⟨(.type "tuple"), none, (.seq #[] 0), #[]⟩
def o127_0 (P : Params) : Obj := ⟨(.type "dict"), none, (.dict #[zd P "__module__" 344 (.str "surenear.errors" 301), zd P "__firstlineno__" 348 (.int 50 347), zd P "__static_attributes__" 349 (.ref 126), zd P "__doc__" 350 .none] 2), #[]⟩
def o128_0 (P : Params) : Obj := ⟨(.type "type"), none, (.cls ⟨"InvalidRule", [(.ref 103)], [(.ref 128), (.ref 103), (.type "ValueError"), (.type "Exception"), (.type "BaseException"), (.type "object")], 127, "InvalidRule", true, [], [], false, none, false⟩), #[(some (.ref 119)), none, (some (.str "InvalidRule" 337)), (some (.str "InvalidRule" 345)), (some (.builtin "ValueError.__new__")), (some (.bool true))]⟩
def o129_0 (P : Params) : Obj := ⟨(.type "super"), none, (.fields #[(.ref 128), (.ref 128), (.ref 128)]), #[]⟩
def o130_0 (P : Params) : Obj := ⟨(.type "builtin_function_or_method"), none, (.fields #[(.builtin "object.__init_subclass__"), (.ref 128)]), #[]⟩
def o131_0 (P : Params) : Obj := ⟨(.type "tuple"), none, (.seq #[] 0), #[]⟩
def o132_0 (P : Params) : Obj := ⟨.none, none, (.fields #[]), #[]⟩
def o133_0 (P : Params) : Obj := ⟨(.type "tuple"), none, (.seq #[(.str "positive" 358), (.str "other" 359), (.str "number" 360)] 0), #[]⟩
def o134_0 (P : Params) : Obj := ⟨(.type "tuple"), none, (.seq #[] 0), #[]⟩
def o135_0 (P : Params) : Obj := ⟨.none, none, (.func (zf (tS 16) "check_rule" "check_rule" 0 [] .none .none .none .none none .none .none 0)), #[]⟩
def o136_0 (P : Params) : Obj := ⟨(.type "code"), none, (.fields #[(.str "check_rule" 355), (.str "check_rule" 356), (.str "/claim/cut.py" 357), (.int 53 0), (.int 2 0), (.int 0 0), (.int 0 0), (.int 3 0), (.ref 131), (.bool true), (.int 181 0), (.ref 132), .none, (.ref 133), (.ref 134), (.ref 135), (.int 361 0), (.int 53 0), (.str "/claim/cut.py" 362)]), #[]⟩
def o137_0 (P : Params) : Obj := ⟨(.type "function"), none, (.func (zf (tS 16) "check_rule" "check_rule" 3 [] .none .none .none (.str "surenear.building.rules" 353) none (.ref 136) .none 0)), #[]⟩
def o138_0 (P : Params) : Obj := ⟨(.type "tuple"), none, (.seq #[] 0), #[]⟩
def o139_0 (P : Params) : Obj := ⟨.none, none, (.fields #[]), #[]⟩
def o140_0 (P : Params) : Obj := ⟨.none, none, (.func (zf (tS 17) "neighbours" "neighbours" 0 [] .none .none .none .none none .none .none 0)), #[]⟩
def o141_0 (P : Params) : Obj := ⟨(.type "code"), none, (.fields #[(.str "neighbours" 364), (.str "neighbours" 365), (.str "/claim/cut.py" 366), (.int 60 0), (.int 3 0), (.int 0 0), (.int 0 0), (.int 3 0), (.ref 138), (.bool true), (.int 181 0), (.ref 139), .none, .none, .none, (.ref 140), (.int 367 0), (.int 60 0), (.str "/claim/cut.py" 368)]), #[]⟩
def o142_0 (P : Params) : Obj := ⟨(.type "function"), none, (.func (zf (tS 17) "neighbours" "neighbours" 3 [] .none .none .none (.str "surenear.building.rules" 353) none (.ref 141) .none 0)), #[]⟩
def o143_0 (P : Params) : Obj := ⟨(.type "tuple"), none, (.seq #[] 0), #[]⟩
def o144_0 (P : Params) : Obj := ⟨(.type "builtin_function_or_method"), none, (.fields #[(.builtin "type.__prepare__"), (.type "type")]), #[]⟩
def o145_0 (P : Params) : Obj := ⟨(.type "dict"), none, (.dict #[zd P "__module__" 377 (.str "surenear.building.rules" 353), zd P "__qualname__" 379 (.str "Lists" 378), zd P "__firstlineno__" 381 (.int 64 380), zd P "__init__" 398 (.ref 157), zd P "layout" 404 (.ref 162), zd P "__static_attributes__" 409 (.ref 163)] 6), #[]⟩
def o146_0 (P : Params) : Obj := ⟨(.type "tuple"), none, (.seq #[] 0), #[]⟩
def o147_0 (P : Params) : Obj := ⟨.none, none, (.fields #[(.int 66 0), (.int 4 0), (.ref 156), (.int 73 0), (.int 4 0), (.ref 161)]), #[]⟩
def o148_0 (P : Params) : Obj := ⟨(.type "code"), none, (.fields #[(.str "Lists" 372), (.str "Lists" 373), (.str "/claim/cut.py" 374), (.int 64 0), (.int 0 0), (.int 0 0), (.int 0 0), (.int 0 0), (.ref 146), (.bool false), (.int 181 0), (.ref 147), .none, .none, .none, .none, (.int 375 0), (.int 64 0), (.str "/claim/cut.py" 376)]), #[]⟩
def o149_0 (P : Params) : Obj := ⟨(.type "frame"), none, .plain, #[(some (.ref 148)), (some (.ref 3)), (some (.ref 145)), none, (some (.str "surenear.building.rules" 353)), none, (some (.ref 0))]⟩
def o150_0 (P : Params) : Obj := ⟨(.type "dict"), none, (.dict #[zd P "rounds" 385 (.int 0 382), zd P "cells" 386 (.int 0 383), zd P "size" 387 (.int 1 384)] 3), #[]⟩
def o151_0 (P : Params) : Obj := ⟨(.type "tuple"), none, (.seq #[] 0), #[]⟩
def o152_0 (P : Params) : Obj := ⟨.none, none, (.fields #[]), #[]⟩
def o153_0 (P : Params) : Obj := ⟨(.type "tuple"), none, (.seq #[(.str "self" 391), (.str "centres" 392), (.str "rounds" 393), (.str "cells" 394), (.str "size" 395)] 0), #[]⟩
def o154_0 (P : Params) : Obj := ⟨(.type "tuple"), none, (.seq #[] 0), #[]⟩
def o155_0 (P : Params) : Obj := ⟨.none, none, (.func (zf (mS 18 0) "__init__" "Lists.__init__" 0 [] .none .none .none .none none .none .none 0)), #[]⟩
def o156_0 (P : Params) : Obj := ⟨(.type "code"), none, (.fields #[(.str "__init__" 388), (.str "Lists.__init__" 389), (.str "/claim/cut.py" 390), (.int 66 0), (.int 2 0), (.int 0 0), (.int 3 0), (.int 3 0), (.ref 151), (.bool true), (.int 181 0), (.ref 152), .none, (.ref 153), (.ref 154), (.ref 155), (.int 396 0), (.int 66 0), (.str "/claim/cut.py" 397)]), #[]⟩
def o157_0 (P : Params) : Obj := ⟨(.type "function"), none, (.func (zf (mS 18 0) "__init__" "Lists.__init__" 3 [] .none (.ref 150) .none (.str "surenear.building.rules" 353) none (.ref 156) .none 0)), #[]⟩
def o158_0 (P : Params) : Obj := ⟨(.type "tuple"), none, (.seq #[] 0), #[]⟩
def o159_0 (P : Params) : Obj := ⟨.none, none, (.fields #[]), #[]⟩
def o160_0 (P : Params) : Obj := ⟨.none, none, (.func (zf (mS 18 1) "layout" "Lists.layout" 0 [] .none .none .none .none none .none .none 0)), #[]⟩
def o161_0 (P : Params) : Obj := ⟨(.type "code"), none, (.fields #[(.str "layout" 399), (.str "Lists.layout" 400), (.str "/claim/cut.py" 401), (.int 73 0), (.int 3 0), (.int 0 0), (.int 0 0), (.int 3 0), (.ref 158), (.bool true), (.int 181 0), (.ref 159), .none, .none, .none, (.ref 160), (.int 402 0), (.int 73 0), (.str "/claim/cut.py" 403)]), #[]⟩
def o162_0 (P : Params) : Obj := ⟨(.type "function"), none, (.func (zf (mS 18 1) "layout" "Lists.layout" 3 [] .none .none .none (.str "surenear.building.rules" 353) none (.ref 161) .none 0)), #[]⟩
def o163_0 (P : Params) : Obj := ⟨(.type "tuple"), none, (.seq #[(.str "cells" 405), (.str "centres" 406), (.str "rounds" 407), (.str "size" 408)] 0), #[]⟩
def o164_0 (P : Params) : Obj := ⟨(.type "dict"), none, (.dict #[zd P "__module__" 377 (.str "surenear.building.rules" 353), zd P "__firstlineno__" 381 (.int 64 380), zd P "__init__" 398 (.ref 157), zd P "layout" 404 (.ref 162), zd P "__static_attributes__" 409 (.ref 163), zd P "__dict__" 411 (.ref 166), zd P "__weakref__" 413 (.ref 167), zd P "__doc__" 414 .none] 4), #[]⟩
def o165_0 (P : Params) : Obj := ⟨(.type "type"), none, (.cls ⟨"Lists", [(.type "object")], [(.ref 165), (.type "object")], 164, "Lists", true, [], [], false, none, false⟩), #[none, none, (some (.str "Lists" 370)), (some (.str "Lists" 378)), (some (.builtin "object.__new__")), (some (.bool true))]⟩
def o166_0 (P : Params) : Obj := ⟨(.type "getset_descriptor"), none, (.fields #[(.str "__dict__" 410), (.ref 165), (.builtin "function.__dict__"), (.builtin "function.__dict__#set")]), #[]⟩
def o167_0 (P : Params) : Obj := ⟨(.type "getset_descriptor"), none, (.fields #[(.str "__weakref__" 412), (.ref 165), (.builtin "ExceptionGroup.__weakref__"), .none]), #[]⟩
def o168_0 (P : Params) : Obj := ⟨(.type "super"), none, (.fields #[(.ref 165), (.ref 165), (.ref 165)]), #[]⟩
def o169_0 (P : Params) : Obj := ⟨(.type "builtin_function_or_method"), none, (.fields #[(.builtin "object.__init_subclass__"), (.ref 165)]), #[]⟩
def o170_0 (P : Params) : Obj := ⟨(.type "tuple"), none, (.seq #[] 0), #[]⟩
def o171_0 (P : Params) : Obj := ⟨.none, none, (.fields #[]), #[]⟩
def o172_0 (P : Params) : Obj := ⟨(.type "tuple"), none, (.seq #[(.str "a" 422), (.str "b" 423)] 0), #[]⟩
def o173_0 (P : Params) : Obj := ⟨(.type "tuple"), none, (.seq #[] 0), #[]⟩
def o174_0 (P : Params) : Obj := ⟨.none, none, (.func (zf (tS 20) "same_value" "same_value" 0 [] .none .none .none .none none .none .none 0)), #[]⟩
def o175_0 (P : Params) : Obj := ⟨(.type "code"), none, (.fields #[(.str "same_value" 419), (.str "same_value" 420), (.str "/claim/cut.py" 421), (.int 90 0), (.int 2 0), (.int 0 0), (.int 0 0), (.int 3 0), (.ref 170), (.bool true), (.int 181 0), (.ref 171), .none, (.ref 172), (.ref 173), (.ref 174), (.int 424 0), (.int 90 0), (.str "/claim/cut.py" 425)]), #[]⟩
def o176_0 (P : Params) : Obj := ⟨(.type "function"), none, (.func (zf (tS 20) "same_value" "same_value" 3 [] .none .none .none (.str "surenear.records.record" 417) none (.ref 175) .none 0)), #[]⟩
def o177_0 (P : Params) : Obj := ⟨(.type "tuple"), none, (.seq #[] 0), #[]⟩
def o178_0 (P : Params) : Obj := ⟨.none, none, (.fields #[]), #[]⟩
def o179_0 (P : Params) : Obj := ⟨(.type "tuple"), none, (.seq #[(.str "a" 430), (.str "b" 431), (.str "name" 432), (.str "worth" 433), (.str "other" 434), (.str "second" 435)] 0), #[]⟩
def o180_0 (P : Params) : Obj := ⟨(.type "tuple"), none, (.seq #[] 0), #[]⟩
def o181_0 (P : Params) : Obj := ⟨.none, none, (.func (zf (tS 21) "same_fields" "same_fields" 0 [] .none .none .none .none none .none .none 0)), #[]⟩
def o182_0 (P : Params) : Obj := ⟨(.type "code"), none, (.fields #[(.str "same_fields" 427), (.str "same_fields" 428), (.str "/claim/cut.py" 429), (.int 92 0), (.int 2 0), (.int 0 0), (.int 0 0), (.int 3 0), (.ref 177), (.bool true), (.int 181 0), (.ref 178), .none, (.ref 179), (.ref 180), (.ref 181), (.int 436 0), (.int 92 0), (.str "/claim/cut.py" 437)]), #[]⟩
def o183_0 (P : Params) : Obj := ⟨(.type "function"), none, (.func (zf (tS 21) "same_fields" "same_fields" 3 [] .none .none .none (.str "surenear.records.record" 417) none (.ref 182) .none 0)), #[]⟩
def o184_0 (P : Params) : Obj := ⟨(.type "tuple"), none, (.seq #[] 0), #[]⟩
def o185_0 (P : Params) : Obj := ⟨(.type "builtin_function_or_method"), none, (.fields #[(.builtin "type.__prepare__"), (.type "type")]), #[]⟩
def o186_0 (P : Params) : Obj := ⟨(.type "dict"), none, (.dict #[zd P "__module__" 446 (.str "surenear.records.record" 417), zd P "__qualname__" 448 (.str "Record" 447), zd P "__firstlineno__" 450 (.int 99 449), zd P "__init__" 458 (.ref 198), zd P "value" 468 (.ref 205), zd P "count_of" 476 (.ref 212), zd P "__eq__" 484 (.ref 219), zd P "__static_attributes__" 489 (.ref 220)] 8), #[]⟩
def o187_0 (P : Params) : Obj := ⟨(.type "tuple"), none, (.seq #[] 0), #[]⟩
def o188_0 (P : Params) : Obj := ⟨.none, none, (.fields #[(.int 101 0), (.int 4 0), (.ref 197), (.int 107 0), (.int 4 0), (.ref 204), (.int 113 0), (.int 4 0), (.ref 211), (.int 116 0), (.int 4 0), (.ref 218)]), #[]⟩
def o189_0 (P : Params) : Obj := ⟨(.type "code"), none, (.fields #[(.str "Record" 441), (.str "Record" 442), (.str "/claim/cut.py" 443), (.int 99 0), (.int 0 0), (.int 0 0), (.int 0 0), (.int 0 0), (.ref 187), (.bool false), (.int 181 0), (.ref 188), .none, .none, .none, .none, (.int 444 0), (.int 99 0), (.str "/claim/cut.py" 445)]), #[]⟩
def o190_0 (P : Params) : Obj := ⟨(.type "frame"), none, .plain, #[(some (.ref 189)), (some (.ref 3)), (some (.ref 186)), none, (some (.str "surenear.records.record" 417)), none, (some (.ref 0))]⟩
def o191_0 (P : Params) : Obj := ⟨(.type "tuple"), none, (.seq #[] 0), #[]⟩
def o192_0 (P : Params) : Obj := ⟨(.type "tuple"), none, (.seq #[] 0), #[]⟩
def o193_0 (P : Params) : Obj := ⟨(.type "dict"), none, (.dict #[zd P "fields" 451 (.ref 191), zd P "words" 452 (.ref 192)] 2), #[]⟩
def o194_0 (P : Params) : Obj := ⟨(.type "tuple"), none, (.seq #[] 0), #[]⟩
def o195_0 (P : Params) : Obj := ⟨.none, none, (.fields #[]), #[]⟩
def o196_0 (P : Params) : Obj := ⟨.none, none, (.func (zf (mS 22 0) "__init__" "Record.__init__" 0 [] .none .none .none .none none .none .none 0)), #[]⟩
def o197_0 (P : Params) : Obj := ⟨(.type "code"), none, (.fields #[(.str "__init__" 453), (.str "Record.__init__" 454), (.str "/claim/cut.py" 455), (.int 101 0), (.int 3 0), (.int 0 0), (.int 2 0), (.int 3 0), (.ref 194), (.bool true), (.int 181 0), (.ref 195), .none, .none, .none, (.ref 196), (.int 456 0), (.int 101 0), (.str "/claim/cut.py" 457)]), #[]⟩
def o198_0 (P : Params) : Obj := ⟨(.type "function"), none, (.func (zf (mS 22 0) "__init__" "Record.__init__" 3 [] .none (.ref 193) .none (.str "surenear.records.record" 417) none (.ref 197) .none 0)), #[]⟩
def o199_0 (P : Params) : Obj := ⟨(.type "tuple"), none, (.seq #[] 0), #[]⟩
def o200_0 (P : Params) : Obj := ⟨.none, none, (.fields #[]), #[]⟩
def o201_0 (P : Params) : Obj := ⟨(.type "tuple"), none, (.seq #[(.str "self" 462), (.str "name" 463), (.str "field" 464), (.str "worth" 465)] 0), #[]⟩
def o202_0 (P : Params) : Obj := ⟨(.type "tuple"), none, (.seq #[] 0), #[]⟩
def o203_0 (P : Params) : Obj := ⟨.none, none, (.func (zf (mS 22 1) "value" "Record.value" 0 [] .none .none .none .none none .none .none 0)), #[]⟩
def o204_0 (P : Params) : Obj := ⟨(.type "code"), none, (.fields #[(.str "value" 459), (.str "Record.value" 460), (.str "/claim/cut.py" 461), (.int 107 0), (.int 2 0), (.int 0 0), (.int 0 0), (.int 3 0), (.ref 199), (.bool true), (.int 181 0), (.ref 200), .none, (.ref 201), (.ref 202), (.ref 203), (.int 466 0), (.int 107 0), (.str "/claim/cut.py" 467)]), #[]⟩
def o205_0 (P : Params) : Obj := ⟨(.type "function"), none, (.func (zf (mS 22 1) "value" "Record.value" 3 [] .none .none .none (.str "surenear.records.record" 417) none (.ref 204) .none 0)), #[]⟩
def o206_0 (P : Params) : Obj := ⟨(.type "tuple"), none, (.seq #[] 0), #[]⟩
def o207_0 (P : Params) : Obj := ⟨.none, none, (.fields #[]), #[]⟩
def o208_0 (P : Params) : Obj := ⟨(.type "tuple"), none, (.seq #[(.str "self" 472), (.str "word" 473)] 0), #[]⟩
def o209_0 (P : Params) : Obj := ⟨(.type "tuple"), none, (.seq #[] 0), #[]⟩
def o210_0 (P : Params) : Obj := ⟨.none, none, (.func (zf (mS 22 2) "count_of" "Record.count_of" 0 [] .none .none .none .none none .none .none 0)), #[]⟩
def o211_0 (P : Params) : Obj := ⟨(.type "code"), none, (.fields #[(.str "count_of" 469), (.str "Record.count_of" 470), (.str "/claim/cut.py" 471), (.int 113 0), (.int 2 0), (.int 0 0), (.int 0 0), (.int 3 0), (.ref 206), (.bool true), (.int 181 0), (.ref 207), .none, (.ref 208), (.ref 209), (.ref 210), (.int 474 0), (.int 113 0), (.str "/claim/cut.py" 475)]), #[]⟩
def o212_0 (P : Params) : Obj := ⟨(.type "function"), none, (.func (zf (mS 22 2) "count_of" "Record.count_of" 3 [] .none .none .none (.str "surenear.records.record" 417) none (.ref 211) .none 0)), #[]⟩
def o213_0 (P : Params) : Obj := ⟨(.type "tuple"), none, (.seq #[] 0), #[]⟩
def o214_0 (P : Params) : Obj := ⟨.none, none, (.fields #[]), #[]⟩
def o215_0 (P : Params) : Obj := ⟨(.type "tuple"), none, (.seq #[(.str "self" 480), (.str "other" 481)] 0), #[]⟩
def o216_0 (P : Params) : Obj := ⟨(.type "tuple"), none, (.seq #[] 0), #[]⟩
def o217_0 (P : Params) : Obj := ⟨.none, none, (.func (zf (mS 22 3) "__eq__" "Record.__eq__" 0 [] .none .none .none .none none .none .none 0)), #[]⟩
def o218_0 (P : Params) : Obj := ⟨(.type "code"), none, (.fields #[(.str "__eq__" 477), (.str "Record.__eq__" 478), (.str "/claim/cut.py" 479), (.int 116 0), (.int 2 0), (.int 0 0), (.int 0 0), (.int 3 0), (.ref 213), (.bool true), (.int 181 0), (.ref 214), .none, (.ref 215), (.ref 216), (.ref 217), (.int 482 0), (.int 116 0), (.str "/claim/cut.py" 483)]), #[]⟩
def o219_0 (P : Params) : Obj := ⟨(.type "function"), none, (.func (zf (mS 22 3) "__eq__" "Record.__eq__" 3 [] .none .none .none (.str "surenear.records.record" 417) none (.ref 218) .none 0)), #[]⟩
def o220_0 (P : Params) : Obj := ⟨(.type "tuple"), none, (.seq #[(.str "fields" 485), (.str "name" 486), (.str "vector" 487), (.str "words" 488)] 0), #[]⟩
def o221_0 (P : Params) : Obj := ⟨(.type "dict"), none, (.dict #[zd P "__module__" 446 (.str "surenear.records.record" 417), zd P "__firstlineno__" 450 (.int 99 449), zd P "__init__" 458 (.ref 198), zd P "value" 468 (.ref 205), zd P "count_of" 476 (.ref 212), zd P "__eq__" 484 (.ref 219), zd P "__static_attributes__" 489 (.ref 220), zd P "__dict__" 491 (.ref 223), zd P "__weakref__" 493 (.ref 224), zd P "__doc__" 494 .none, zd P "__hash__" 495 .none] 5), #[]⟩
def o222_0 (P : Params) : Obj := ⟨(.type "type"), none, (.cls ⟨"Record", [(.type "object")], [(.ref 222), (.type "object")], 221, "Record", true, [], [], false, none, false⟩), #[none, none, (some (.str "Record" 439)), (some (.str "Record" 447)), (some (.builtin "object.__new__")), (some (.bool true))]⟩
def o223_0 (P : Params) : Obj := ⟨(.type "getset_descriptor"), none, (.fields #[(.str "__dict__" 490), (.ref 222), (.builtin "function.__dict__"), (.builtin "function.__dict__#set")]), #[]⟩
def o224_0 (P : Params) : Obj := ⟨(.type "getset_descriptor"), none, (.fields #[(.str "__weakref__" 492), (.ref 222), (.builtin "ExceptionGroup.__weakref__"), .none]), #[]⟩
def o225_0 (P : Params) : Obj := ⟨(.type "super"), none, (.fields #[(.ref 222), (.ref 222), (.ref 222)]), #[]⟩
def o226_0 (P : Params) : Obj := ⟨(.type "builtin_function_or_method"), none, (.fields #[(.builtin "object.__init_subclass__"), (.ref 222)]), #[]⟩
def t1 (P : Params) : BT := (nd (PySem.W.boot_o_0 P) (nd (PySem.W.boot_o_1 P) (nd (o3_0 P) (nd (PySem.W.boot_o_7 P) (nd (o15_0 P) (nd (o31_0 P) (nd (o63_0 P) (nd (o127_0 P) lf lf) (nd (o191_0 P) lf lf)) (nd (o95_0 P) (nd (o159_0 P) lf lf) (nd (o223_0 P) lf lf))) (nd (o47_0 P) (nd (o79_0 P) (nd (o143_0 P) lf lf) (nd (o207_0 P) lf lf)) (nd (o111_0 P) (nd (o175_0 P) lf lf) lf))) (nd (o23_0 P) (nd (o39_0 P) (nd (o71_0 P) (nd (o135_0 P) lf lf) (nd (o199_0 P) lf lf)) (nd (o103_0 P) (nd (o167_0 P) lf lf) lf)) (nd (o55_0 P) (nd (o87_0 P) (nd (o151_0 P) lf lf) (nd (o215_0 P) lf lf)) (nd (o119_0 P) (nd (o183_0 P) lf lf) lf)))) (nd (o11_0 P) (nd (o19_0 P) (nd (o35_0 P) (nd (o67_0 P) (nd (o131_0 P) lf lf) (nd (o195_0 P) lf lf)) (nd (o99_0 P) (nd (o163_0 P) lf lf) lf)) (nd (o51_0 P) (nd (o83_0 P) (nd (o147_0 P) lf lf) (nd (o211_0 P) lf lf)) (nd (o115_0 P) (nd (o179_0 P) lf lf) lf))) (nd (o27_0 P) (nd (o43_0 P) (nd (o75_0 P) (nd (o139_0 P) lf lf) (nd (o203_0 P) lf lf)) (nd (o107_0 P) (nd (o171_0 P) lf lf) lf)) (nd (o59_0 P) (nd (o91_0 P) (nd (o155_0 P) lf lf) (nd (o219_0 P) lf lf)) (nd (o123_0 P) (nd (o187_0 P) lf lf) lf))))) (nd (PySem.W.boot_o_5 P) (nd (PySem.W.boot_o_9 P) (nd (o17_0 P) (nd (o33_0 P) (nd (o65_0 P) (nd (o129_0 P) lf lf) (nd (o193_0 P) lf lf)) (nd (o97_0 P) (nd (o161_0 P) lf lf) (nd (o225_0 P) lf lf))) (nd (o49_0 P) (nd (o81_0 P) (nd (o145_0 P) lf lf) (nd (o209_0 P) lf lf)) (nd (o113_0 P) (nd (o177_0 P) lf lf) lf))) (nd (o25_0 P) (nd (o41_0 P) (nd (o73_0 P) (nd (o137_0 P) lf lf) (nd (o201_0 P) lf lf)) (nd (o105_0 P) (nd (o169_0 P) lf lf) lf)) (nd (o57_0 P) (nd (o89_0 P) (nd (o153_0 P) lf lf) (nd (o217_0 P) lf lf)) (nd (o121_0 P) (nd (o185_0 P) lf lf) lf)))) (nd (o13_0 P) (nd (o21_0 P) (nd (o37_0 P) (nd (o69_0 P) (nd (o133_0 P) lf lf) (nd (o197_0 P) lf lf)) (nd (o101_0 P) (nd (o165_0 P) lf lf) lf)) (nd (o53_0 P) (nd (o85_0 P) (nd (o149_0 P) lf lf) (nd (o213_0 P) lf lf)) (nd (o117_0 P) (nd (o181_0 P) lf lf) lf))) (nd (o29_0 P) (nd (o45_0 P) (nd (o77_0 P) (nd (o141_0 P) lf lf) (nd (o205_0 P) lf lf)) (nd (o109_0 P) (nd (o173_0 P) lf lf) lf)) (nd (o61_0 P) (nd (o93_0 P) (nd (o157_0 P) lf lf) (nd (o221_0 P) lf lf)) (nd (o125_0 P) (nd (o189_0 P) lf lf) lf)))))) (nd (PySem.W.boot_o_2 P) (nd (PySem.W.boot_o_4 P) (nd (PySem.W.boot_o_8 P) (nd (o16_0 P) (nd (o32_0 P) (nd (o64_0 P) (nd (o128_0 P) lf lf) (nd (o192_0 P) lf lf)) (nd (o96_0 P) (nd (o160_0 P) lf lf) (nd (o224_0 P) lf lf))) (nd (o48_0 P) (nd (o80_0 P) (nd (o144_0 P) lf lf) (nd (o208_0 P) lf lf)) (nd (o112_0 P) (nd (o176_0 P) lf lf) lf))) (nd (o24_0 P) (nd (o40_0 P) (nd (o72_0 P) (nd (o136_0 P) lf lf) (nd (o200_0 P) lf lf)) (nd (o104_0 P) (nd (o168_0 P) lf lf) lf)) (nd (o56_0 P) (nd (o88_0 P) (nd (o152_0 P) lf lf) (nd (o216_0 P) lf lf)) (nd (o120_0 P) (nd (o184_0 P) lf lf) lf)))) (nd (o12_1 P) (nd (o20_0 P) (nd (o36_0 P) (nd (o68_0 P) (nd (o132_0 P) lf lf) (nd (o196_0 P) lf lf)) (nd (o100_0 P) (nd (o164_0 P) lf lf) lf)) (nd (o52_0 P) (nd (o84_0 P) (nd (o148_0 P) lf lf) (nd (o212_0 P) lf lf)) (nd (o116_0 P) (nd (o180_0 P) lf lf) lf))) (nd (o28_0 P) (nd (o44_0 P) (nd (o76_0 P) (nd (o140_0 P) lf lf) (nd (o204_0 P) lf lf)) (nd (o108_0 P) (nd (o172_0 P) lf lf) lf)) (nd (o60_0 P) (nd (o92_0 P) (nd (o156_0 P) lf lf) (nd (o220_0 P) lf lf)) (nd (o124_0 P) (nd (o188_0 P) lf lf) lf))))) (nd (PySem.W.boot_o_6 P) (nd (PySem.W.boot_o_10 P) (nd (o18_0 P) (nd (o34_0 P) (nd (o66_0 P) (nd (o130_0 P) lf lf) (nd (o194_0 P) lf lf)) (nd (o98_0 P) (nd (o162_0 P) lf lf) (nd (o226_0 P) lf lf))) (nd (o50_0 P) (nd (o82_0 P) (nd (o146_0 P) lf lf) (nd (o210_0 P) lf lf)) (nd (o114_0 P) (nd (o178_0 P) lf lf) lf))) (nd (o26_0 P) (nd (o42_0 P) (nd (o74_0 P) (nd (o138_0 P) lf lf) (nd (o202_0 P) lf lf)) (nd (o106_0 P) (nd (o170_0 P) lf lf) lf)) (nd (o58_0 P) (nd (o90_0 P) (nd (o154_0 P) lf lf) (nd (o218_0 P) lf lf)) (nd (o122_0 P) (nd (o186_0 P) lf lf) lf)))) (nd (o14_0 P) (nd (o22_0 P) (nd (o38_0 P) (nd (o70_0 P) (nd (o134_0 P) lf lf) (nd (o198_0 P) lf lf)) (nd (o102_0 P) (nd (o166_0 P) lf lf) lf)) (nd (o54_0 P) (nd (o86_0 P) (nd (o150_0 P) lf lf) (nd (o214_0 P) lf lf)) (nd (o118_0 P) (nd (o182_0 P) lf lf) lf))) (nd (o30_0 P) (nd (o46_0 P) (nd (o78_0 P) (nd (o142_0 P) lf lf) (nd (o206_0 P) lf lf)) (nd (o110_0 P) (nd (o174_0 P) lf lf) lf)) (nd (o62_0 P) (nd (o94_0 P) (nd (o158_0 P) lf lf) (nd (o222_0 P) lf lf)) (nd (o126_0 P) (nd (o190_0 P) lf lf) lf)))))))
def s1 (w : World) (os : OsState) : SharedT := ⟨t1 w.params, 227, { }, #[], ⟨0, 0, 0, 0⟩, 500, os⟩
abbrev l1 : List Stmt := (bE.drop 0).take 24
theorem seg1 (w : World) (os : OsState) : segRunT treeTable pr w 11 annV 1 2036 (sA w os) (piecesOf l1 env cE ⟨0, 0, 0, 0⟩ fB) = some (.next, s1 w os, cE, ⟨122, 0, 122, 8⟩) := seg_q (by kernel_rfl)
def o3_1 (P : Params) : Obj := ⟨(.type "dict"), none, (.dict (List.toArray (zd P "__name__" 165 (.str "surenear.records.schema" 498) :: zd P "__doc__" 166 .none :: zd P "__package__" 167 .none :: zd P "__loader__" 168 (.builtin "__main__.__loader__#opaque") :: zd P "__spec__" 169 .none :: zd P "__annotations__" 170 (.ref 6) :: zd P "__builtins__" 171 (.ref 4) :: zd P "__file__" 173 (.str "/claim/cut.py" 172) :: zd P "__cached__" 174 .none :: zd P "_wall" 193 (.ref 21) :: zd P "distance" 206 (.ref 28) :: zd P "Sketch" 239 (.ref 46) :: zd P "Layout" 270 (.ref 67) :: zd P "nearest" 282 (.ref 78) :: zd P "mean" 288 (.ref 83) :: zd P "move" 294 (.ref 88) :: zd P "train" 300 (.ref 93) :: zd P "SurenearError" 320 (.ref 103) :: zd P "InvalidSchema" 336 (.ref 116) :: zd P "InvalidRule" 352 (.ref 128) :: zd P "check_rule" 363 (.ref 137) :: zd P "neighbours" 369 (.ref 142) :: zd P "Lists" 416 (.ref 165) :: zd P "same_value" 426 (.ref 176) :: zd P "same_fields" 438 (.ref 183) :: zd P "Record" 497 (.ref 222) :: zd P "RANGES" 514 (.ref 227) :: [])) 27), #[]⟩
def o227_0 (P : Params) : Obj := ⟨(.type "dict"), none, (.dict #[zd P "bit" 500 (.ref 228), zd P "small" 503 (.ref 229), zd P "wide" 507 (.ref 230)] 3), #[]⟩
def o228_0 (P : Params) : Obj := ⟨(.type "tuple"), none, (.seq #[(.int 0 501), (.int 1 502)] 0), #[]⟩
def o229_0 (P : Params) : Obj := ⟨(.type "tuple"), none, (.seq #[(.int (-128) 505), (.int 127 506)] 0), #[]⟩
def o230_0 (P : Params) : Obj := ⟨(.type "tuple"), none, (.seq #[(.int (-32768) 509), (.int 32767 510)] 0), #[]⟩
def t2 (P : Params) : BT := (nd (PySem.W.boot_o_0 P) (nd (PySem.W.boot_o_1 P) (nd (o3_1 P) (nd (PySem.W.boot_o_7 P) (nd (o15_0 P) (nd (o31_0 P) (nd (o63_0 P) (nd (o127_0 P) lf lf) (nd (o191_0 P) lf lf)) (nd (o95_0 P) (nd (o159_0 P) lf lf) (nd (o223_0 P) lf lf))) (nd (o47_0 P) (nd (o79_0 P) (nd (o143_0 P) lf lf) (nd (o207_0 P) lf lf)) (nd (o111_0 P) (nd (o175_0 P) lf lf) lf))) (nd (o23_0 P) (nd (o39_0 P) (nd (o71_0 P) (nd (o135_0 P) lf lf) (nd (o199_0 P) lf lf)) (nd (o103_0 P) (nd (o167_0 P) lf lf) lf)) (nd (o55_0 P) (nd (o87_0 P) (nd (o151_0 P) lf lf) (nd (o215_0 P) lf lf)) (nd (o119_0 P) (nd (o183_0 P) lf lf) lf)))) (nd (o11_0 P) (nd (o19_0 P) (nd (o35_0 P) (nd (o67_0 P) (nd (o131_0 P) lf lf) (nd (o195_0 P) lf lf)) (nd (o99_0 P) (nd (o163_0 P) lf lf) (nd (o227_0 P) lf lf))) (nd (o51_0 P) (nd (o83_0 P) (nd (o147_0 P) lf lf) (nd (o211_0 P) lf lf)) (nd (o115_0 P) (nd (o179_0 P) lf lf) lf))) (nd (o27_0 P) (nd (o43_0 P) (nd (o75_0 P) (nd (o139_0 P) lf lf) (nd (o203_0 P) lf lf)) (nd (o107_0 P) (nd (o171_0 P) lf lf) lf)) (nd (o59_0 P) (nd (o91_0 P) (nd (o155_0 P) lf lf) (nd (o219_0 P) lf lf)) (nd (o123_0 P) (nd (o187_0 P) lf lf) lf))))) (nd (PySem.W.boot_o_5 P) (nd (PySem.W.boot_o_9 P) (nd (o17_0 P) (nd (o33_0 P) (nd (o65_0 P) (nd (o129_0 P) lf lf) (nd (o193_0 P) lf lf)) (nd (o97_0 P) (nd (o161_0 P) lf lf) (nd (o225_0 P) lf lf))) (nd (o49_0 P) (nd (o81_0 P) (nd (o145_0 P) lf lf) (nd (o209_0 P) lf lf)) (nd (o113_0 P) (nd (o177_0 P) lf lf) lf))) (nd (o25_0 P) (nd (o41_0 P) (nd (o73_0 P) (nd (o137_0 P) lf lf) (nd (o201_0 P) lf lf)) (nd (o105_0 P) (nd (o169_0 P) lf lf) lf)) (nd (o57_0 P) (nd (o89_0 P) (nd (o153_0 P) lf lf) (nd (o217_0 P) lf lf)) (nd (o121_0 P) (nd (o185_0 P) lf lf) lf)))) (nd (o13_0 P) (nd (o21_0 P) (nd (o37_0 P) (nd (o69_0 P) (nd (o133_0 P) lf lf) (nd (o197_0 P) lf lf)) (nd (o101_0 P) (nd (o165_0 P) lf lf) (nd (o229_0 P) lf lf))) (nd (o53_0 P) (nd (o85_0 P) (nd (o149_0 P) lf lf) (nd (o213_0 P) lf lf)) (nd (o117_0 P) (nd (o181_0 P) lf lf) lf))) (nd (o29_0 P) (nd (o45_0 P) (nd (o77_0 P) (nd (o141_0 P) lf lf) (nd (o205_0 P) lf lf)) (nd (o109_0 P) (nd (o173_0 P) lf lf) lf)) (nd (o61_0 P) (nd (o93_0 P) (nd (o157_0 P) lf lf) (nd (o221_0 P) lf lf)) (nd (o125_0 P) (nd (o189_0 P) lf lf) lf)))))) (nd (PySem.W.boot_o_2 P) (nd (PySem.W.boot_o_4 P) (nd (PySem.W.boot_o_8 P) (nd (o16_0 P) (nd (o32_0 P) (nd (o64_0 P) (nd (o128_0 P) lf lf) (nd (o192_0 P) lf lf)) (nd (o96_0 P) (nd (o160_0 P) lf lf) (nd (o224_0 P) lf lf))) (nd (o48_0 P) (nd (o80_0 P) (nd (o144_0 P) lf lf) (nd (o208_0 P) lf lf)) (nd (o112_0 P) (nd (o176_0 P) lf lf) lf))) (nd (o24_0 P) (nd (o40_0 P) (nd (o72_0 P) (nd (o136_0 P) lf lf) (nd (o200_0 P) lf lf)) (nd (o104_0 P) (nd (o168_0 P) lf lf) lf)) (nd (o56_0 P) (nd (o88_0 P) (nd (o152_0 P) lf lf) (nd (o216_0 P) lf lf)) (nd (o120_0 P) (nd (o184_0 P) lf lf) lf)))) (nd (o12_1 P) (nd (o20_0 P) (nd (o36_0 P) (nd (o68_0 P) (nd (o132_0 P) lf lf) (nd (o196_0 P) lf lf)) (nd (o100_0 P) (nd (o164_0 P) lf lf) (nd (o228_0 P) lf lf))) (nd (o52_0 P) (nd (o84_0 P) (nd (o148_0 P) lf lf) (nd (o212_0 P) lf lf)) (nd (o116_0 P) (nd (o180_0 P) lf lf) lf))) (nd (o28_0 P) (nd (o44_0 P) (nd (o76_0 P) (nd (o140_0 P) lf lf) (nd (o204_0 P) lf lf)) (nd (o108_0 P) (nd (o172_0 P) lf lf) lf)) (nd (o60_0 P) (nd (o92_0 P) (nd (o156_0 P) lf lf) (nd (o220_0 P) lf lf)) (nd (o124_0 P) (nd (o188_0 P) lf lf) lf))))) (nd (PySem.W.boot_o_6 P) (nd (PySem.W.boot_o_10 P) (nd (o18_0 P) (nd (o34_0 P) (nd (o66_0 P) (nd (o130_0 P) lf lf) (nd (o194_0 P) lf lf)) (nd (o98_0 P) (nd (o162_0 P) lf lf) (nd (o226_0 P) lf lf))) (nd (o50_0 P) (nd (o82_0 P) (nd (o146_0 P) lf lf) (nd (o210_0 P) lf lf)) (nd (o114_0 P) (nd (o178_0 P) lf lf) lf))) (nd (o26_0 P) (nd (o42_0 P) (nd (o74_0 P) (nd (o138_0 P) lf lf) (nd (o202_0 P) lf lf)) (nd (o106_0 P) (nd (o170_0 P) lf lf) lf)) (nd (o58_0 P) (nd (o90_0 P) (nd (o154_0 P) lf lf) (nd (o218_0 P) lf lf)) (nd (o122_0 P) (nd (o186_0 P) lf lf) lf)))) (nd (o14_0 P) (nd (o22_0 P) (nd (o38_0 P) (nd (o70_0 P) (nd (o134_0 P) lf lf) (nd (o198_0 P) lf lf)) (nd (o102_0 P) (nd (o166_0 P) lf lf) (nd (o230_0 P) lf lf))) (nd (o54_0 P) (nd (o86_0 P) (nd (o150_0 P) lf lf) (nd (o214_0 P) lf lf)) (nd (o118_0 P) (nd (o182_0 P) lf lf) lf))) (nd (o30_0 P) (nd (o46_0 P) (nd (o78_0 P) (nd (o142_0 P) lf lf) (nd (o206_0 P) lf lf)) (nd (o110_0 P) (nd (o174_0 P) lf lf) lf)) (nd (o62_0 P) (nd (o94_0 P) (nd (o158_0 P) lf lf) (nd (o222_0 P) lf lf)) (nd (o126_0 P) (nd (o190_0 P) lf lf) lf)))))))
def s2 (w : World) (os : OsState) : SharedT := ⟨t2 w.params, 231, { }, #[], ⟨0, 0, 0, 0⟩, 515, os⟩
abbrev l2 : List Stmt := (bE.drop 24).take 1
theorem seg2f (w : World) : (fun w : World => ∀ os : OsState, segRunT treeTable pr w 11 annV 1 75 (s1 w os) (piecesOf l2 env cE ⟨122, 0, 122, 8⟩ fB) = some (.next, s2 w os, cE, ⟨123, 0, 123, 6⟩)) (w.withFollow "special-get-raises" false) := fun os => seg_q (by kernel_rfl)
theorem seg2t (w : World) : (fun w : World => ∀ os : OsState, segRunT treeTable pr w 11 annV 1 75 (s1 w os) (piecesOf l2 env cE ⟨122, 0, 122, 8⟩ fB) = some (.next, s2 w os, cE, ⟨123, 0, 123, 6⟩)) (w.withFollow "special-get-raises" true) := fun os => seg_q (by kernel_rfl)
theorem seg2 (w : World) (os : OsState) : segRunT treeTable pr w 11 annV 1 75 (s1 w os) (piecesOf l2 env cE ⟨122, 0, 122, 8⟩ fB) = some (.next, s2 w os, cE, ⟨123, 0, 123, 6⟩) := byRow2 "special-get-raises" (P := fun w : World => ∀ os : OsState, segRunT treeTable pr w 11 annV 1 75 (s1 w os) (piecesOf l2 env cE ⟨122, 0, 122, 8⟩ fB) = some (.next, s2 w os, cE, ⟨123, 0, 123, 6⟩)) seg2f seg2t w os
def o3_2 (P : Params) : Obj := ⟨(.type "dict"), none, (.dict (List.toArray (zd P "__name__" 165 (.str "law_surenear_k30_lists" 684) :: zd P "__doc__" 166 .none :: zd P "__package__" 167 .none :: zd P "__loader__" 168 (.builtin "__main__.__loader__#opaque") :: zd P "__spec__" 169 .none :: zd P "__annotations__" 170 (.ref 6) :: zd P "__builtins__" 171 (.ref 4) :: zd P "__file__" 173 (.str "/claim/cut.py" 172) :: zd P "__cached__" 174 .none :: zd P "_wall" 193 (.ref 21) :: zd P "distance" 206 (.ref 28) :: zd P "Sketch" 239 (.ref 46) :: zd P "Layout" 270 (.ref 67) :: zd P "nearest" 282 (.ref 78) :: zd P "mean" 288 (.ref 83) :: zd P "move" 294 (.ref 88) :: zd P "train" 300 (.ref 93) :: zd P "SurenearError" 320 (.ref 103) :: zd P "InvalidSchema" 336 (.ref 116) :: zd P "InvalidRule" 352 (.ref 128) :: zd P "check_rule" 363 (.ref 137) :: zd P "neighbours" 369 (.ref 142) :: zd P "Lists" 416 (.ref 165) :: zd P "same_value" 426 (.ref 176) :: zd P "same_fields" 438 (.ref 183) :: zd P "Record" 497 (.ref 222) :: zd P "RANGES" 514 (.ref 227) :: zd P "MEASURES" 518 (.ref 231) :: zd P "KINDS" 522 (.ref 232) :: zd P "WORDS" 531 (.ref 233) :: zd P "is_letter" 538 (.ref 240) :: zd P "is_digit" 545 (.ref 247) :: zd P "is_field_name" 553 (.ref 254) :: zd P "kind_of_value" 560 (.ref 261) :: zd P "words_fit" 570 (.ref 268) :: zd P "Schema" 683 (.ref 350) :: zd P "_law_row" 697 (.ref 361) :: zd P "_law_next" 706 (.ref 368) :: zd P "_law_rows_of" 712 (.ref 373) :: zd P "_law_distance" 722 (.ref 380) :: zd P "_law_nearest" 732 (.ref 387) :: zd P "_law_shown" 738 (.ref 392) :: zd P "_law_cells" 744 (.ref 397) :: zd P "law" 750 (.ref 402) :: [])) 44), #[]⟩
def o12_2 (P : Params) : Obj := ⟨.none, none, (.fields (List.toArray ((.int 1 0) :: (.int 0 0) :: (.ref 20) :: (.int 5 0) :: (.int 0 0) :: (.ref 27) :: (.int 11 0) :: (.int 0 0) :: (.ref 34) :: (.int 17 0) :: (.int 0 0) :: (.ref 56) :: (.int 23 0) :: (.int 0 0) :: (.ref 77) :: (.int 29 0) :: (.int 0 0) :: (.ref 82) :: (.int 31 0) :: (.int 0 0) :: (.ref 87) :: (.int 38 0) :: (.int 0 0) :: (.ref 92) :: (.int 46 0) :: (.int 0 0) :: (.ref 99) :: (.int 48 0) :: (.int 0 0) :: (.ref 112) :: (.int 50 0) :: (.int 0 0) :: (.ref 124) :: (.int 53 0) :: (.int 0 0) :: (.ref 136) :: (.int 60 0) :: (.int 0 0) :: (.ref 141) :: (.int 64 0) :: (.int 0 0) :: (.ref 148) :: (.int 90 0) :: (.int 0 0) :: (.ref 175) :: (.int 92 0) :: (.int 0 0) :: (.ref 182) :: (.int 99 0) :: (.int 0 0) :: (.ref 189) :: (.int 127 0) :: (.int 0 0) :: (.ref 239) :: (.int 129 0) :: (.int 0 0) :: (.ref 246) :: (.int 131 0) :: (.int 0 0) :: (.ref 253) :: (.int 138 0) :: (.int 0 0) :: (.ref 260) :: (.int 144 0) :: (.int 0 0) :: (.ref 267) :: (.int 151 0) :: (.int 0 0) :: (.ref 274) :: (.int 215 0) :: (.int 0 0) :: (.ref 360) :: (.int 227 0) :: (.int 0 0) :: (.ref 367) :: (.int 234 0) :: (.int 0 0) :: (.ref 372) :: (.int 240 0) :: (.int 0 0) :: (.ref 379) :: (.int 245 0) :: (.int 0 0) :: (.ref 386) :: (.int 251 0) :: (.int 0 0) :: (.ref 391) :: (.int 258 0) :: (.int 0 0) :: (.ref 396) :: (.int 268 0) :: (.int 0 0) :: (.ref 401) :: []))), #[]⟩
def o231_0 (P : Params) : Obj := ⟨(.type "tuple"), none, (.seq #[(.str "square" 515), (.str "dot" 516), (.str "bits" 517)] 0), #[]⟩
def o232_0 (P : Params) : Obj := ⟨(.type "tuple"), none, (.seq #[(.str "integer" 519), (.str "text" 520), (.str "flag" 521)] 0), #[]⟩
def o233_0 (P : Params) : Obj := ⟨(.type "tuple"), none, (.seq #[(.str "every" 523), (.str "has" 524), (.str "in" 525), (.str "and" 526), (.str "or" 527), (.str "not" 528), (.str "true" 529), (.str "false" 530)] 0), #[]⟩
def o234_0 (P : Params) : Obj := ⟨(.type "tuple"), none, (.seq #[] 0), #[]⟩
def o235_0 (P : Params) : Obj := ⟨.none, none, (.fields #[]), #[]⟩
def o236_0 (P : Params) : Obj := ⟨(.type "tuple"), none, (.seq #[(.str "sign" 535)] 0), #[]⟩
def o237_0 (P : Params) : Obj := ⟨(.type "tuple"), none, (.seq #[] 0), #[]⟩
def o238_0 (P : Params) : Obj := ⟨.none, none, (.func (zf (tS 28) "is_letter" "is_letter" 0 [] .none .none .none .none none .none .none 0)), #[]⟩
def o239_0 (P : Params) : Obj := ⟨(.type "code"), none, (.fields #[(.str "is_letter" 532), (.str "is_letter" 533), (.str "/claim/cut.py" 534), (.int 127 0), (.int 1 0), (.int 0 0), (.int 0 0), (.int 3 0), (.ref 234), (.bool true), (.int 181 0), (.ref 235), .none, (.ref 236), (.ref 237), (.ref 238), (.int 536 0), (.int 127 0), (.str "/claim/cut.py" 537)]), #[]⟩
def o240_0 (P : Params) : Obj := ⟨(.type "function"), none, (.func (zf (tS 28) "is_letter" "is_letter" 3 [] .none .none .none (.str "surenear.records.schema" 498) none (.ref 239) .none 0)), #[]⟩
def o241_0 (P : Params) : Obj := ⟨(.type "tuple"), none, (.seq #[] 0), #[]⟩
def o242_0 (P : Params) : Obj := ⟨.none, none, (.fields #[]), #[]⟩
def o243_0 (P : Params) : Obj := ⟨(.type "tuple"), none, (.seq #[(.str "sign" 542)] 0), #[]⟩
def o244_0 (P : Params) : Obj := ⟨(.type "tuple"), none, (.seq #[] 0), #[]⟩
def o245_0 (P : Params) : Obj := ⟨.none, none, (.func (zf (tS 29) "is_digit" "is_digit" 0 [] .none .none .none .none none .none .none 0)), #[]⟩
def o246_0 (P : Params) : Obj := ⟨(.type "code"), none, (.fields #[(.str "is_digit" 539), (.str "is_digit" 540), (.str "/claim/cut.py" 541), (.int 129 0), (.int 1 0), (.int 0 0), (.int 0 0), (.int 3 0), (.ref 241), (.bool true), (.int 181 0), (.ref 242), .none, (.ref 243), (.ref 244), (.ref 245), (.int 543 0), (.int 129 0), (.str "/claim/cut.py" 544)]), #[]⟩
def o247_0 (P : Params) : Obj := ⟨(.type "function"), none, (.func (zf (tS 29) "is_digit" "is_digit" 3 [] .none .none .none (.str "surenear.records.schema" 498) none (.ref 246) .none 0)), #[]⟩
def o248_0 (P : Params) : Obj := ⟨(.type "tuple"), none, (.seq #[] 0), #[]⟩
def o249_0 (P : Params) : Obj := ⟨.none, none, (.fields #[]), #[]⟩
def o250_0 (P : Params) : Obj := ⟨(.type "tuple"), none, (.seq #[(.str "name" 549), (.str "sign" 550)] 0), #[]⟩
def o251_0 (P : Params) : Obj := ⟨(.type "tuple"), none, (.seq #[] 0), #[]⟩
def o252_0 (P : Params) : Obj := ⟨.none, none, (.func (zf (tS 30) "is_field_name" "is_field_name" 0 [] .none .none .none .none none .none .none 0)), #[]⟩
def o253_0 (P : Params) : Obj := ⟨(.type "code"), none, (.fields #[(.str "is_field_name" 546), (.str "is_field_name" 547), (.str "/claim/cut.py" 548), (.int 131 0), (.int 1 0), (.int 0 0), (.int 0 0), (.int 3 0), (.ref 248), (.bool true), (.int 181 0), (.ref 249), .none, (.ref 250), (.ref 251), (.ref 252), (.int 551 0), (.int 131 0), (.str "/claim/cut.py" 552)]), #[]⟩
def o254_0 (P : Params) : Obj := ⟨(.type "function"), none, (.func (zf (tS 30) "is_field_name" "is_field_name" 3 [] .none .none .none (.str "surenear.records.schema" 498) none (.ref 253) .none 0)), #[]⟩
def o255_0 (P : Params) : Obj := ⟨(.type "tuple"), none, (.seq #[] 0), #[]⟩
def o256_0 (P : Params) : Obj := ⟨.none, none, (.fields #[]), #[]⟩
def o257_0 (P : Params) : Obj := ⟨(.type "tuple"), none, (.seq #[(.str "worth" 557)] 0), #[]⟩
def o258_0 (P : Params) : Obj := ⟨(.type "tuple"), none, (.seq #[] 0), #[]⟩
def o259_0 (P : Params) : Obj := ⟨.none, none, (.func (zf (tS 31) "kind_of_value" "kind_of_value" 0 [] .none .none .none .none none .none .none 0)), #[]⟩
def o260_0 (P : Params) : Obj := ⟨(.type "code"), none, (.fields #[(.str "kind_of_value" 554), (.str "kind_of_value" 555), (.str "/claim/cut.py" 556), (.int 138 0), (.int 1 0), (.int 0 0), (.int 0 0), (.int 3 0), (.ref 255), (.bool true), (.int 181 0), (.ref 256), .none, (.ref 257), (.ref 258), (.ref 259), (.int 558 0), (.int 138 0), (.str "/claim/cut.py" 559)]), #[]⟩
def o261_0 (P : Params) : Obj := ⟨(.type "function"), none, (.func (zf (tS 31) "kind_of_value" "kind_of_value" 3 [] .none .none .none (.str "surenear.records.schema" 498) none (.ref 260) .none 0)), #[]⟩
def o262_0 (P : Params) : Obj := ⟨(.type "tuple"), none, (.seq #[] 0), #[]⟩
def o263_0 (P : Params) : Obj := ⟨.none, none, (.fields #[]), #[]⟩
def o264_0 (P : Params) : Obj := ⟨(.type "tuple"), none, (.seq #[(.str "words" 564), (.str "before" 565), (.str "word" 566), (.str "count" 567)] 0), #[]⟩
def o265_0 (P : Params) : Obj := ⟨(.type "tuple"), none, (.seq #[] 0), #[]⟩
def o266_0 (P : Params) : Obj := ⟨.none, none, (.func (zf (tS 32) "words_fit" "words_fit" 0 [] .none .none .none .none none .none .none 0)), #[]⟩
def o267_0 (P : Params) : Obj := ⟨(.type "code"), none, (.fields #[(.str "words_fit" 561), (.str "words_fit" 562), (.str "/claim/cut.py" 563), (.int 144 0), (.int 1 0), (.int 0 0), (.int 0 0), (.int 3 0), (.ref 262), (.bool true), (.int 181 0), (.ref 263), .none, (.ref 264), (.ref 265), (.ref 266), (.int 568 0), (.int 144 0), (.str "/claim/cut.py" 569)]), #[]⟩
def o268_0 (P : Params) : Obj := ⟨(.type "function"), none, (.func (zf (tS 32) "words_fit" "words_fit" 3 [] .none .none .none (.str "surenear.records.schema" 498) none (.ref 267) .none 0)), #[]⟩
def o269_0 (P : Params) : Obj := ⟨(.type "tuple"), none, (.seq #[] 0), #[]⟩
def o270_0 (P : Params) : Obj := ⟨(.type "builtin_function_or_method"), none, (.fields #[(.builtin "type.__prepare__"), (.type "type")]), #[]⟩
def o271_0 (P : Params) : Obj := ⟨(.type "dict"), none, (.dict #[zd P "__module__" 578 (.str "surenear.records.schema" 498), zd P "__qualname__" 580 (.str "Schema" 579), zd P "__firstlineno__" 582 (.int 151 581), zd P "__init__" 593 (.ref 282), zd P "least" 601 (.ref 290), zd P "greatest" 609 (.ref 298), zd P "kind_of" 617 (.ref 305), zd P "far" 626 (.ref 312), zd P "has_vector" 635 (.ref 319), zd P "has_fields" 646 (.ref 326), zd P "__contains__" 654 (.ref 333), zd P "check" 662 (.ref 340), zd P "__eq__" 670 (.ref 347), zd P "__static_attributes__" 675 (.ref 348)] 14), #[]⟩
def o272_0 (P : Params) : Obj := ⟨(.type "tuple"), none, (.seq #[] 0), #[]⟩
def o273_0 (P : Params) : Obj := ⟨.none, none, (.fields (List.toArray ((.int 153 0) :: (.int 4 0) :: (.ref 281) :: (.int 169 0) :: (.int 4 0) :: (.ref 288) :: (.int 173 0) :: (.int 4 0) :: (.ref 296) :: (.int 176 0) :: (.int 4 0) :: (.ref 304) :: (.int 179 0) :: (.int 4 0) :: (.ref 311) :: (.int 182 0) :: (.int 4 0) :: (.ref 318) :: (.int 190 0) :: (.int 4 0) :: (.ref 325) :: (.int 200 0) :: (.int 4 0) :: (.ref 332) :: (.int 205 0) :: (.int 4 0) :: (.ref 339) :: (.int 208 0) :: (.int 4 0) :: (.ref 346) :: []))), #[]⟩
def o274_0 (P : Params) : Obj := ⟨(.type "code"), none, (.fields #[(.str "Schema" 573), (.str "Schema" 574), (.str "/claim/cut.py" 575), (.int 151 0), (.int 0 0), (.int 0 0), (.int 0 0), (.int 0 0), (.ref 272), (.bool false), (.int 181 0), (.ref 273), .none, .none, .none, .none, (.int 576 0), (.int 151 0), (.str "/claim/cut.py" 577)]), #[]⟩
def o275_0 (P : Params) : Obj := ⟨(.type "frame"), none, .plain, #[(some (.ref 274)), (some (.ref 3)), (some (.ref 271)), none, (some (.str "surenear.records.schema" 498)), none, (some (.ref 0))]⟩
def o276_0 (P : Params) : Obj := ⟨(.type "tuple"), none, (.seq #[] 0), #[]⟩
def o277_0 (P : Params) : Obj := ⟨(.type "dict"), none, (.dict #[zd P "width" 585 (.str "small" 583), zd P "measure" 586 (.str "square" 584), zd P "fields" 587 (.ref 276)] 3), #[]⟩
def o278_0 (P : Params) : Obj := ⟨(.type "tuple"), none, (.seq #[] 0), #[]⟩
def o279_0 (P : Params) : Obj := ⟨.none, none, (.fields #[]), #[]⟩
def o280_0 (P : Params) : Obj := ⟨.none, none, (.func (zf (mS 33 0) "__init__" "Schema.__init__" 0 [] .none .none .none .none none .none .none 0)), #[]⟩
def o281_0 (P : Params) : Obj := ⟨(.type "code"), none, (.fields #[(.str "__init__" 588), (.str "Schema.__init__" 589), (.str "/claim/cut.py" 590), (.int 153 0), (.int 2 0), (.int 0 0), (.int 3 0), (.int 3 0), (.ref 278), (.bool true), (.int 181 0), (.ref 279), .none, .none, .none, (.ref 280), (.int 591 0), (.int 153 0), (.str "/claim/cut.py" 592)]), #[]⟩
def o282_0 (P : Params) : Obj := ⟨(.type "function"), none, (.func (zf (mS 33 0) "__init__" "Schema.__init__" 3 [] .none (.ref 277) .none (.str "surenear.records.schema" 498) none (.ref 281) .none 0)), #[]⟩
def o283_0 (P : Params) : Obj := ⟨(.type "tuple"), none, (.seq #[] 0), #[]⟩
def o284_0 (P : Params) : Obj := ⟨.none, none, (.fields #[]), #[]⟩
def o285_0 (P : Params) : Obj := ⟨(.type "tuple"), none, (.seq #[(.str "self" 597)] 0), #[]⟩
def o286_0 (P : Params) : Obj := ⟨(.type "tuple"), none, (.seq #[] 0), #[]⟩
def o287_0 (P : Params) : Obj := ⟨.none, none, (.func (zf (mS 33 1) "least" "Schema.least" 0 [] .none .none .none .none none .none .none 0)), #[]⟩
def o288_0 (P : Params) : Obj := ⟨(.type "code"), none, (.fields #[(.str "least" 594), (.str "Schema.least" 595), (.str "/claim/cut.py" 596), (.int 168 0), (.int 1 0), (.int 0 0), (.int 0 0), (.int 3 0), (.ref 283), (.bool true), (.int 181 0), (.ref 284), .none, (.ref 285), (.ref 286), (.ref 287), (.int 598 0), (.int 168 0), (.str "/claim/cut.py" 599)]), #[]⟩
def o289_0 (P : Params) : Obj := ⟨(.type "function"), none, (.func (zf (mS 33 1) "least" "Schema.least" 3 [] .none .none .none (.str "surenear.records.schema" 498) none (.ref 288) .none 0)), #[]⟩
def o290_0 (P : Params) : Obj := ⟨(.type "property"), none, (.fields #[(.ref 289), .none, .none, .none, (.str "least" 601), (.bool false)]), #[]⟩
def o291_0 (P : Params) : Obj := ⟨(.type "tuple"), none, (.seq #[] 0), #[]⟩
def o292_0 (P : Params) : Obj := ⟨.none, none, (.fields #[]), #[]⟩
def o293_0 (P : Params) : Obj := ⟨(.type "tuple"), none, (.seq #[(.str "self" 605)] 0), #[]⟩
def o294_0 (P : Params) : Obj := ⟨(.type "tuple"), none, (.seq #[] 0), #[]⟩
def o295_0 (P : Params) : Obj := ⟨.none, none, (.func (zf (mS 33 2) "greatest" "Schema.greatest" 0 [] .none .none .none .none none .none .none 0)), #[]⟩
def o296_0 (P : Params) : Obj := ⟨(.type "code"), none, (.fields #[(.str "greatest" 602), (.str "Schema.greatest" 603), (.str "/claim/cut.py" 604), (.int 172 0), (.int 1 0), (.int 0 0), (.int 0 0), (.int 3 0), (.ref 291), (.bool true), (.int 181 0), (.ref 292), .none, (.ref 293), (.ref 294), (.ref 295), (.int 606 0), (.int 172 0), (.str "/claim/cut.py" 607)]), #[]⟩
def o297_0 (P : Params) : Obj := ⟨(.type "function"), none, (.func (zf (mS 33 2) "greatest" "Schema.greatest" 3 [] .none .none .none (.str "surenear.records.schema" 498) none (.ref 296) .none 0)), #[]⟩
def o298_0 (P : Params) : Obj := ⟨(.type "property"), none, (.fields #[(.ref 297), .none, .none, .none, (.str "greatest" 609), (.bool false)]), #[]⟩
def o299_0 (P : Params) : Obj := ⟨(.type "tuple"), none, (.seq #[] 0), #[]⟩
def o300_0 (P : Params) : Obj := ⟨.none, none, (.fields #[]), #[]⟩
def o301_0 (P : Params) : Obj := ⟨(.type "tuple"), none, (.seq #[(.str "self" 613), (.str "name" 614)] 0), #[]⟩
def o302_0 (P : Params) : Obj := ⟨(.type "tuple"), none, (.seq #[] 0), #[]⟩
def o303_0 (P : Params) : Obj := ⟨.none, none, (.func (zf (mS 33 3) "kind_of" "Schema.kind_of" 0 [] .none .none .none .none none .none .none 0)), #[]⟩
def o304_0 (P : Params) : Obj := ⟨(.type "code"), none, (.fields #[(.str "kind_of" 610), (.str "Schema.kind_of" 611), (.str "/claim/cut.py" 612), (.int 176 0), (.int 2 0), (.int 0 0), (.int 0 0), (.int 3 0), (.ref 299), (.bool true), (.int 181 0), (.ref 300), .none, (.ref 301), (.ref 302), (.ref 303), (.int 615 0), (.int 176 0), (.str "/claim/cut.py" 616)]), #[]⟩
def o305_0 (P : Params) : Obj := ⟨(.type "function"), none, (.func (zf (mS 33 3) "kind_of" "Schema.kind_of" 3 [] .none .none .none (.str "surenear.records.schema" 498) none (.ref 304) .none 0)), #[]⟩
def o306_0 (P : Params) : Obj := ⟨(.type "tuple"), none, (.seq #[] 0), #[]⟩
def o307_0 (P : Params) : Obj := ⟨.none, none, (.fields #[]), #[]⟩
def o308_0 (P : Params) : Obj := ⟨(.type "tuple"), none, (.seq #[(.str "self" 621), (.str "a" 622), (.str "b" 623)] 0), #[]⟩
def o309_0 (P : Params) : Obj := ⟨(.type "tuple"), none, (.seq #[] 0), #[]⟩
def o310_0 (P : Params) : Obj := ⟨.none, none, (.func (zf (mS 33 4) "far" "Schema.far" 0 [] .none .none .none .none none .none .none 0)), #[]⟩
def o311_0 (P : Params) : Obj := ⟨(.type "code"), none, (.fields #[(.str "far" 618), (.str "Schema.far" 619), (.str "/claim/cut.py" 620), (.int 179 0), (.int 3 0), (.int 0 0), (.int 0 0), (.int 3 0), (.ref 306), (.bool true), (.int 181 0), (.ref 307), .none, (.ref 308), (.ref 309), (.ref 310), (.int 624 0), (.int 179 0), (.str "/claim/cut.py" 625)]), #[]⟩
def o312_0 (P : Params) : Obj := ⟨(.type "function"), none, (.func (zf (mS 33 4) "far" "Schema.far" 3 [] .none .none .none (.str "surenear.records.schema" 498) none (.ref 311) .none 0)), #[]⟩
def o313_0 (P : Params) : Obj := ⟨(.type "tuple"), none, (.seq #[] 0), #[]⟩
def o314_0 (P : Params) : Obj := ⟨.none, none, (.fields #[]), #[]⟩
def o315_0 (P : Params) : Obj := ⟨(.type "tuple"), none, (.seq #[(.str "self" 630), (.str "vector" 631), (.str "number" 632)] 0), #[]⟩
def o316_0 (P : Params) : Obj := ⟨(.type "tuple"), none, (.seq #[] 0), #[]⟩
def o317_0 (P : Params) : Obj := ⟨.none, none, (.func (zf (mS 33 5) "has_vector" "Schema.has_vector" 0 [] .none .none .none .none none .none .none 0)), #[]⟩
def o318_0 (P : Params) : Obj := ⟨(.type "code"), none, (.fields #[(.str "has_vector" 627), (.str "Schema.has_vector" 628), (.str "/claim/cut.py" 629), (.int 182 0), (.int 2 0), (.int 0 0), (.int 0 0), (.int 3 0), (.ref 313), (.bool true), (.int 181 0), (.ref 314), .none, (.ref 315), (.ref 316), (.ref 317), (.int 633 0), (.int 182 0), (.str "/claim/cut.py" 634)]), #[]⟩
def o319_0 (P : Params) : Obj := ⟨(.type "function"), none, (.func (zf (mS 33 5) "has_vector" "Schema.has_vector" 3 [] .none .none .none (.str "surenear.records.schema" 498) none (.ref 318) .none 0)), #[]⟩
def o320_0 (P : Params) : Obj := ⟨(.type "tuple"), none, (.seq #[] 0), #[]⟩
def o321_0 (P : Params) : Obj := ⟨.none, none, (.fields #[]), #[]⟩
def o322_0 (P : Params) : Obj := ⟨(.type "tuple"), none, (.seq #[(.str "self" 639), (.str "pairs" 640), (.str "at" 641), (.str "name" 642), (.str "worth" 643)] 0), #[]⟩
def o323_0 (P : Params) : Obj := ⟨(.type "tuple"), none, (.seq #[] 0), #[]⟩
def o324_0 (P : Params) : Obj := ⟨.none, none, (.func (zf (mS 33 6) "has_fields" "Schema.has_fields" 0 [] .none .none .none .none none .none .none 0)), #[]⟩
def o325_0 (P : Params) : Obj := ⟨(.type "code"), none, (.fields #[(.str "has_fields" 636), (.str "Schema.has_fields" 637), (.str "/claim/cut.py" 638), (.int 190 0), (.int 2 0), (.int 0 0), (.int 0 0), (.int 3 0), (.ref 320), (.bool true), (.int 181 0), (.ref 321), .none, (.ref 322), (.ref 323), (.ref 324), (.int 644 0), (.int 190 0), (.str "/claim/cut.py" 645)]), #[]⟩
def o326_0 (P : Params) : Obj := ⟨(.type "function"), none, (.func (zf (mS 33 6) "has_fields" "Schema.has_fields" 3 [] .none .none .none (.str "surenear.records.schema" 498) none (.ref 325) .none 0)), #[]⟩
def o327_0 (P : Params) : Obj := ⟨(.type "tuple"), none, (.seq #[] 0), #[]⟩
def o328_0 (P : Params) : Obj := ⟨.none, none, (.fields #[]), #[]⟩
def o329_0 (P : Params) : Obj := ⟨(.type "tuple"), none, (.seq #[(.str "self" 650), (.str "record" 651)] 0), #[]⟩
def o330_0 (P : Params) : Obj := ⟨(.type "tuple"), none, (.seq #[] 0), #[]⟩
def o331_0 (P : Params) : Obj := ⟨.none, none, (.func (zf (mS 33 7) "__contains__" "Schema.__contains__" 0 [] .none .none .none .none none .none .none 0)), #[]⟩
def o332_0 (P : Params) : Obj := ⟨(.type "code"), none, (.fields #[(.str "__contains__" 647), (.str "Schema.__contains__" 648), (.str "/claim/cut.py" 649), (.int 200 0), (.int 2 0), (.int 0 0), (.int 0 0), (.int 3 0), (.ref 327), (.bool true), (.int 181 0), (.ref 328), .none, (.ref 329), (.ref 330), (.ref 331), (.int 652 0), (.int 200 0), (.str "/claim/cut.py" 653)]), #[]⟩
def o333_0 (P : Params) : Obj := ⟨(.type "function"), none, (.func (zf (mS 33 7) "__contains__" "Schema.__contains__" 3 [] .none .none .none (.str "surenear.records.schema" 498) none (.ref 332) .none 0)), #[]⟩
def o334_0 (P : Params) : Obj := ⟨(.type "tuple"), none, (.seq #[] 0), #[]⟩
def o335_0 (P : Params) : Obj := ⟨.none, none, (.fields #[]), #[]⟩
def o336_0 (P : Params) : Obj := ⟨(.type "tuple"), none, (.seq #[(.str "self" 658), (.str "record" 659)] 0), #[]⟩
def o337_0 (P : Params) : Obj := ⟨(.type "tuple"), none, (.seq #[] 0), #[]⟩
def o338_0 (P : Params) : Obj := ⟨.none, none, (.func (zf (mS 33 8) "check" "Schema.check" 0 [] .none .none .none .none none .none .none 0)), #[]⟩
def o339_0 (P : Params) : Obj := ⟨(.type "code"), none, (.fields #[(.str "check" 655), (.str "Schema.check" 656), (.str "/claim/cut.py" 657), (.int 205 0), (.int 2 0), (.int 0 0), (.int 0 0), (.int 3 0), (.ref 334), (.bool true), (.int 181 0), (.ref 335), .none, (.ref 336), (.ref 337), (.ref 338), (.int 660 0), (.int 205 0), (.str "/claim/cut.py" 661)]), #[]⟩
def o340_0 (P : Params) : Obj := ⟨(.type "function"), none, (.func (zf (mS 33 8) "check" "Schema.check" 3 [] .none .none .none (.str "surenear.records.schema" 498) none (.ref 339) .none 0)), #[]⟩
def o341_0 (P : Params) : Obj := ⟨(.type "tuple"), none, (.seq #[] 0), #[]⟩
def o342_0 (P : Params) : Obj := ⟨.none, none, (.fields #[]), #[]⟩
def o343_0 (P : Params) : Obj := ⟨(.type "tuple"), none, (.seq #[(.str "self" 666), (.str "other" 667)] 0), #[]⟩
def o344_0 (P : Params) : Obj := ⟨(.type "tuple"), none, (.seq #[] 0), #[]⟩
def o345_0 (P : Params) : Obj := ⟨.none, none, (.func (zf (mS 33 9) "__eq__" "Schema.__eq__" 0 [] .none .none .none .none none .none .none 0)), #[]⟩
def o346_0 (P : Params) : Obj := ⟨(.type "code"), none, (.fields #[(.str "__eq__" 663), (.str "Schema.__eq__" 664), (.str "/claim/cut.py" 665), (.int 208 0), (.int 2 0), (.int 0 0), (.int 0 0), (.int 3 0), (.ref 341), (.bool true), (.int 181 0), (.ref 342), .none, (.ref 343), (.ref 344), (.ref 345), (.int 668 0), (.int 208 0), (.str "/claim/cut.py" 669)]), #[]⟩
def o347_0 (P : Params) : Obj := ⟨(.type "function"), none, (.func (zf (mS 33 9) "__eq__" "Schema.__eq__" 3 [] .none .none .none (.str "surenear.records.schema" 498) none (.ref 346) .none 0)), #[]⟩
def o348_0 (P : Params) : Obj := ⟨(.type "tuple"), none, (.seq #[(.str "fields" 671), (.str "measure" 672), (.str "size" 673), (.str "width" 674)] 0), #[]⟩
def o349_0 (P : Params) : Obj := ⟨(.type "dict"), none, (.dict #[zd P "__module__" 578 (.str "surenear.records.schema" 498), zd P "__firstlineno__" 582 (.int 151 581), zd P "__init__" 593 (.ref 282), zd P "least" 601 (.ref 290), zd P "greatest" 609 (.ref 298), zd P "kind_of" 617 (.ref 305), zd P "far" 626 (.ref 312), zd P "has_vector" 635 (.ref 319), zd P "has_fields" 646 (.ref 326), zd P "__contains__" 654 (.ref 333), zd P "check" 662 (.ref 340), zd P "__eq__" 670 (.ref 347), zd P "__static_attributes__" 675 (.ref 348), zd P "__dict__" 677 (.ref 351), zd P "__weakref__" 679 (.ref 352), zd P "__doc__" 680 .none, zd P "__hash__" 681 .none] 5), #[]⟩
def o350_0 (P : Params) : Obj := ⟨(.type "type"), none, (.cls ⟨"Schema", [(.type "object")], [(.ref 350), (.type "object")], 349, "Schema", true, [], [], false, none, false⟩), #[none, none, (some (.str "Schema" 571)), (some (.str "Schema" 579)), (some (.builtin "object.__new__")), (some (.bool true))]⟩
def o351_0 (P : Params) : Obj := ⟨(.type "getset_descriptor"), none, (.fields #[(.str "__dict__" 676), (.ref 350), (.builtin "function.__dict__"), (.builtin "function.__dict__#set")]), #[]⟩
def o352_0 (P : Params) : Obj := ⟨(.type "getset_descriptor"), none, (.fields #[(.str "__weakref__" 678), (.ref 350), (.builtin "ExceptionGroup.__weakref__"), .none]), #[]⟩
def o353_0 (P : Params) : Obj := ⟨(.type "super"), none, (.fields #[(.ref 350), (.ref 350), (.ref 350)]), #[]⟩
def o354_0 (P : Params) : Obj := ⟨(.type "builtin_function_or_method"), none, (.fields #[(.builtin "object.__init_subclass__"), (.ref 350)]), #[]⟩
def o355_0 (P : Params) : Obj := ⟨(.type "tuple"), none, (.seq #[] 0), #[]⟩
def o356_0 (P : Params) : Obj := ⟨.none, none, (.fields #[]), #[]⟩
def o357_0 (P : Params) : Obj := ⟨(.type "tuple"), none, (.seq #[(.str "_law_script" 689), (.str "_law_k" 690), (.str "_law_cell" 691), (.str "_law_a" 692), (.str "_law_b" 693), (.str "_law_c" 694)] 0), #[]⟩
def o358_0 (P : Params) : Obj := ⟨(.type "tuple"), none, (.seq #[] 0), #[]⟩
def o359_0 (P : Params) : Obj := ⟨.none, none, (.func (zf (tS 35) "_law_row" "_law_row" 0 [] .none .none .none .none none .none .none 0)), #[]⟩
def o360_0 (P : Params) : Obj := ⟨(.type "code"), none, (.fields #[(.str "_law_row" 686), (.str "_law_row" 687), (.str "/claim/cut.py" 688), (.int 215 0), (.int 2 0), (.int 0 0), (.int 0 0), (.int 3 0), (.ref 355), (.bool true), (.int 181 0), (.ref 356), .none, (.ref 357), (.ref 358), (.ref 359), (.int 695 0), (.int 215 0), (.str "/claim/cut.py" 696)]), #[]⟩
def o361_0 (P : Params) : Obj := ⟨(.type "function"), none, (.func (zf (tS 35) "_law_row" "_law_row" 3 [] .none .none .none (.str "law_surenear_k30_lists" 684) none (.ref 360) .none 0)), #[]⟩
def o362_0 (P : Params) : Obj := ⟨(.type "tuple"), none, (.seq #[] 0), #[]⟩
def o363_0 (P : Params) : Obj := ⟨.none, none, (.fields #[]), #[]⟩
def o364_0 (P : Params) : Obj := ⟨(.type "tuple"), none, (.seq #[(.str "_law_state" 701), (.str "_law_many" 702), (.str "_law_drawn" 703)] 0), #[]⟩
def o365_0 (P : Params) : Obj := ⟨(.type "tuple"), none, (.seq #[] 0), #[]⟩
def o366_0 (P : Params) : Obj := ⟨.none, none, (.func (zf (tS 36) "_law_next" "_law_next" 0 [] .none .none .none .none none .none .none 0)), #[]⟩
def o367_0 (P : Params) : Obj := ⟨(.type "code"), none, (.fields #[(.str "_law_next" 698), (.str "_law_next" 699), (.str "/claim/cut.py" 700), (.int 227 0), (.int 2 0), (.int 0 0), (.int 0 0), (.int 3 0), (.ref 362), (.bool true), (.int 181 0), (.ref 363), .none, (.ref 364), (.ref 365), (.ref 366), (.int 704 0), (.int 227 0), (.str "/claim/cut.py" 705)]), #[]⟩
def o368_0 (P : Params) : Obj := ⟨(.type "function"), none, (.func (zf (tS 36) "_law_next" "_law_next" 3 [] .none .none .none (.str "law_surenear_k30_lists" 684) none (.ref 367) .none 0)), #[]⟩
def o369_0 (P : Params) : Obj := ⟨(.type "tuple"), none, (.seq #[] 0), #[]⟩
def o370_0 (P : Params) : Obj := ⟨.none, none, (.fields #[]), #[]⟩
def o371_0 (P : Params) : Obj := ⟨.none, none, (.func (zf (tS 37) "_law_rows_of" "_law_rows_of" 0 [] .none .none .none .none none .none .none 0)), #[]⟩
def o372_0 (P : Params) : Obj := ⟨(.type "code"), none, (.fields #[(.str "_law_rows_of" 707), (.str "_law_rows_of" 708), (.str "/claim/cut.py" 709), (.int 234 0), (.int 3 0), (.int 0 0), (.int 0 0), (.int 3 0), (.ref 369), (.bool true), (.int 181 0), (.ref 370), .none, .none, .none, (.ref 371), (.int 710 0), (.int 234 0), (.str "/claim/cut.py" 711)]), #[]⟩
def o373_0 (P : Params) : Obj := ⟨(.type "function"), none, (.func (zf (tS 37) "_law_rows_of" "_law_rows_of" 3 [] .none .none .none (.str "law_surenear_k30_lists" 684) none (.ref 372) .none 0)), #[]⟩
def o374_0 (P : Params) : Obj := ⟨(.type "tuple"), none, (.seq #[] 0), #[]⟩
def o375_0 (P : Params) : Obj := ⟨.none, none, (.fields #[]), #[]⟩
def o376_0 (P : Params) : Obj := ⟨(.type "tuple"), none, (.seq #[(.str "_law_a" 716), (.str "_law_b" 717), (.str "_law_total" 718), (.str "_law_k" 719)] 0), #[]⟩
def o377_0 (P : Params) : Obj := ⟨(.type "tuple"), none, (.seq #[] 0), #[]⟩
def o378_0 (P : Params) : Obj := ⟨.none, none, (.func (zf (tS 38) "_law_distance" "_law_distance" 0 [] .none .none .none .none none .none .none 0)), #[]⟩
def o379_0 (P : Params) : Obj := ⟨(.type "code"), none, (.fields #[(.str "_law_distance" 713), (.str "_law_distance" 714), (.str "/claim/cut.py" 715), (.int 240 0), (.int 2 0), (.int 0 0), (.int 0 0), (.int 3 0), (.ref 374), (.bool true), (.int 181 0), (.ref 375), .none, (.ref 376), (.ref 377), (.ref 378), (.int 720 0), (.int 240 0), (.str "/claim/cut.py" 721)]), #[]⟩
def o380_0 (P : Params) : Obj := ⟨(.type "function"), none, (.func (zf (tS 38) "_law_distance" "_law_distance" 3 [] .none .none .none (.str "law_surenear_k30_lists" 684) none (.ref 379) .none 0)), #[]⟩
def o381_0 (P : Params) : Obj := ⟨(.type "tuple"), none, (.seq #[] 0), #[]⟩
def o382_0 (P : Params) : Obj := ⟨.none, none, (.fields #[]), #[]⟩
def o383_0 (P : Params) : Obj := ⟨(.type "tuple"), none, (.seq #[(.str "_law_centres" 726), (.str "_law_vector" 727), (.str "_law_best" 728), (.str "_law_k" 729)] 0), #[]⟩
def o384_0 (P : Params) : Obj := ⟨(.type "tuple"), none, (.seq #[] 0), #[]⟩
def o385_0 (P : Params) : Obj := ⟨.none, none, (.func (zf (tS 39) "_law_nearest" "_law_nearest" 0 [] .none .none .none .none none .none .none 0)), #[]⟩
def o386_0 (P : Params) : Obj := ⟨(.type "code"), none, (.fields #[(.str "_law_nearest" 723), (.str "_law_nearest" 724), (.str "/claim/cut.py" 725), (.int 245 0), (.int 2 0), (.int 0 0), (.int 0 0), (.int 3 0), (.ref 381), (.bool true), (.int 181 0), (.ref 382), .none, (.ref 383), (.ref 384), (.ref 385), (.int 730 0), (.int 245 0), (.str "/claim/cut.py" 731)]), #[]⟩
def o387_0 (P : Params) : Obj := ⟨(.type "function"), none, (.func (zf (tS 39) "_law_nearest" "_law_nearest" 3 [] .none .none .none (.str "law_surenear_k30_lists" 684) none (.ref 386) .none 0)), #[]⟩
def o388_0 (P : Params) : Obj := ⟨(.type "tuple"), none, (.seq #[] 0), #[]⟩
def o389_0 (P : Params) : Obj := ⟨.none, none, (.fields #[]), #[]⟩
def o390_0 (P : Params) : Obj := ⟨.none, none, (.func (zf (tS 40) "_law_shown" "_law_shown" 0 [] .none .none .none .none none .none .none 0)), #[]⟩
def o391_0 (P : Params) : Obj := ⟨(.type "code"), none, (.fields #[(.str "_law_shown" 733), (.str "_law_shown" 734), (.str "/claim/cut.py" 735), (.int 251 0), (.int 1 0), (.int 0 0), (.int 0 0), (.int 3 0), (.ref 388), (.bool true), (.int 181 0), (.ref 389), .none, .none, .none, (.ref 390), (.int 736 0), (.int 251 0), (.str "/claim/cut.py" 737)]), #[]⟩
def o392_0 (P : Params) : Obj := ⟨(.type "function"), none, (.func (zf (tS 40) "_law_shown" "_law_shown" 3 [] .none .none .none (.str "law_surenear_k30_lists" 684) none (.ref 391) .none 0)), #[]⟩
def o393_0 (P : Params) : Obj := ⟨(.type "tuple"), none, (.seq #[] 0), #[]⟩
def o394_0 (P : Params) : Obj := ⟨.none, none, (.fields #[]), #[]⟩
def o395_0 (P : Params) : Obj := ⟨.none, none, (.func (zf (tS 41) "_law_cells" "_law_cells" 0 [] .none .none .none .none none .none .none 0)), #[]⟩
def o396_0 (P : Params) : Obj := ⟨(.type "code"), none, (.fields #[(.str "_law_cells" 739), (.str "_law_cells" 740), (.str "/claim/cut.py" 741), (.int 258 0), (.int 3 0), (.int 0 0), (.int 0 0), (.int 3 0), (.ref 393), (.bool true), (.int 181 0), (.ref 394), .none, .none, .none, (.ref 395), (.int 742 0), (.int 258 0), (.str "/claim/cut.py" 743)]), #[]⟩
def o397_0 (P : Params) : Obj := ⟨(.type "function"), none, (.func (zf (tS 41) "_law_cells" "_law_cells" 3 [] .none .none .none (.str "law_surenear_k30_lists" 684) none (.ref 396) .none 0)), #[]⟩
def o398_0 (P : Params) : Obj := ⟨(.type "tuple"), none, (.seq #[] 0), #[]⟩
def o399_0 (P : Params) : Obj := ⟨.none, none, (.fields #[]), #[]⟩
def o400_0 (P : Params) : Obj := ⟨.none, none, (.func (zf (tS 42) "law" "law" 0 [] .none .none .none .none none .none .none 0)), #[]⟩
def o401_0 (P : Params) : Obj := ⟨(.type "code"), none, (.fields #[(.str "law" 745), (.str "law" 746), (.str "/claim/cut.py" 747), (.int 268 0), (.int 1 0), (.int 0 0), (.int 0 0), (.int 3 0), (.ref 398), (.bool true), (.int 181 0), (.ref 399), .none, .none, .none, (.ref 400), (.int 748 0), (.int 268 0), (.str "/claim/cut.py" 749)]), #[]⟩
def o402_0 (P : Params) : Obj := ⟨(.type "function"), none, (.func (zf (tS 42) "law" "law" 3 [] .none .none .none (.str "law_surenear_k30_lists" 684) none (.ref 401) .none 0)), #[]⟩
def t3 (P : Params) : BT := (nd (PySem.W.boot_o_0 P) (nd (PySem.W.boot_o_1 P) (nd (o3_2 P) (nd (PySem.W.boot_o_7 P) (nd (o15_0 P) (nd (o31_0 P) (nd (o63_0 P) (nd (o127_0 P) (nd (o255_0 P) lf lf) (nd (o383_0 P) lf lf)) (nd (o191_0 P) (nd (o319_0 P) lf lf) lf)) (nd (o95_0 P) (nd (o159_0 P) (nd (o287_0 P) lf lf) lf) (nd (o223_0 P) (nd (o351_0 P) lf lf) lf))) (nd (o47_0 P) (nd (o79_0 P) (nd (o143_0 P) (nd (o271_0 P) lf lf) (nd (o399_0 P) lf lf)) (nd (o207_0 P) (nd (o335_0 P) lf lf) lf)) (nd (o111_0 P) (nd (o175_0 P) (nd (o303_0 P) lf lf) lf) (nd (o239_0 P) (nd (o367_0 P) lf lf) lf)))) (nd (o23_0 P) (nd (o39_0 P) (nd (o71_0 P) (nd (o135_0 P) (nd (o263_0 P) lf lf) (nd (o391_0 P) lf lf)) (nd (o199_0 P) (nd (o327_0 P) lf lf) lf)) (nd (o103_0 P) (nd (o167_0 P) (nd (o295_0 P) lf lf) lf) (nd (o231_0 P) (nd (o359_0 P) lf lf) lf))) (nd (o55_0 P) (nd (o87_0 P) (nd (o151_0 P) (nd (o279_0 P) lf lf) lf) (nd (o215_0 P) (nd (o343_0 P) lf lf) lf)) (nd (o119_0 P) (nd (o183_0 P) (nd (o311_0 P) lf lf) lf) (nd (o247_0 P) (nd (o375_0 P) lf lf) lf))))) (nd (o11_0 P) (nd (o19_0 P) (nd (o35_0 P) (nd (o67_0 P) (nd (o131_0 P) (nd (o259_0 P) lf lf) (nd (o387_0 P) lf lf)) (nd (o195_0 P) (nd (o323_0 P) lf lf) lf)) (nd (o99_0 P) (nd (o163_0 P) (nd (o291_0 P) lf lf) lf) (nd (o227_0 P) (nd (o355_0 P) lf lf) lf))) (nd (o51_0 P) (nd (o83_0 P) (nd (o147_0 P) (nd (o275_0 P) lf lf) lf) (nd (o211_0 P) (nd (o339_0 P) lf lf) lf)) (nd (o115_0 P) (nd (o179_0 P) (nd (o307_0 P) lf lf) lf) (nd (o243_0 P) (nd (o371_0 P) lf lf) lf)))) (nd (o27_0 P) (nd (o43_0 P) (nd (o75_0 P) (nd (o139_0 P) (nd (o267_0 P) lf lf) (nd (o395_0 P) lf lf)) (nd (o203_0 P) (nd (o331_0 P) lf lf) lf)) (nd (o107_0 P) (nd (o171_0 P) (nd (o299_0 P) lf lf) lf) (nd (o235_0 P) (nd (o363_0 P) lf lf) lf))) (nd (o59_0 P) (nd (o91_0 P) (nd (o155_0 P) (nd (o283_0 P) lf lf) lf) (nd (o219_0 P) (nd (o347_0 P) lf lf) lf)) (nd (o123_0 P) (nd (o187_0 P) (nd (o315_0 P) lf lf) lf) (nd (o251_0 P) (nd (o379_0 P) lf lf) lf)))))) (nd (PySem.W.boot_o_5 P) (nd (PySem.W.boot_o_9 P) (nd (o17_0 P) (nd (o33_0 P) (nd (o65_0 P) (nd (o129_0 P) (nd (o257_0 P) lf lf) (nd (o385_0 P) lf lf)) (nd (o193_0 P) (nd (o321_0 P) lf lf) lf)) (nd (o97_0 P) (nd (o161_0 P) (nd (o289_0 P) lf lf) lf) (nd (o225_0 P) (nd (o353_0 P) lf lf) lf))) (nd (o49_0 P) (nd (o81_0 P) (nd (o145_0 P) (nd (o273_0 P) lf lf) (nd (o401_0 P) lf lf)) (nd (o209_0 P) (nd (o337_0 P) lf lf) lf)) (nd (o113_0 P) (nd (o177_0 P) (nd (o305_0 P) lf lf) lf) (nd (o241_0 P) (nd (o369_0 P) lf lf) lf)))) (nd (o25_0 P) (nd (o41_0 P) (nd (o73_0 P) (nd (o137_0 P) (nd (o265_0 P) lf lf) (nd (o393_0 P) lf lf)) (nd (o201_0 P) (nd (o329_0 P) lf lf) lf)) (nd (o105_0 P) (nd (o169_0 P) (nd (o297_0 P) lf lf) lf) (nd (o233_0 P) (nd (o361_0 P) lf lf) lf))) (nd (o57_0 P) (nd (o89_0 P) (nd (o153_0 P) (nd (o281_0 P) lf lf) lf) (nd (o217_0 P) (nd (o345_0 P) lf lf) lf)) (nd (o121_0 P) (nd (o185_0 P) (nd (o313_0 P) lf lf) lf) (nd (o249_0 P) (nd (o377_0 P) lf lf) lf))))) (nd (o13_0 P) (nd (o21_0 P) (nd (o37_0 P) (nd (o69_0 P) (nd (o133_0 P) (nd (o261_0 P) lf lf) (nd (o389_0 P) lf lf)) (nd (o197_0 P) (nd (o325_0 P) lf lf) lf)) (nd (o101_0 P) (nd (o165_0 P) (nd (o293_0 P) lf lf) lf) (nd (o229_0 P) (nd (o357_0 P) lf lf) lf))) (nd (o53_0 P) (nd (o85_0 P) (nd (o149_0 P) (nd (o277_0 P) lf lf) lf) (nd (o213_0 P) (nd (o341_0 P) lf lf) lf)) (nd (o117_0 P) (nd (o181_0 P) (nd (o309_0 P) lf lf) lf) (nd (o245_0 P) (nd (o373_0 P) lf lf) lf)))) (nd (o29_0 P) (nd (o45_0 P) (nd (o77_0 P) (nd (o141_0 P) (nd (o269_0 P) lf lf) (nd (o397_0 P) lf lf)) (nd (o205_0 P) (nd (o333_0 P) lf lf) lf)) (nd (o109_0 P) (nd (o173_0 P) (nd (o301_0 P) lf lf) lf) (nd (o237_0 P) (nd (o365_0 P) lf lf) lf))) (nd (o61_0 P) (nd (o93_0 P) (nd (o157_0 P) (nd (o285_0 P) lf lf) lf) (nd (o221_0 P) (nd (o349_0 P) lf lf) lf)) (nd (o125_0 P) (nd (o189_0 P) (nd (o317_0 P) lf lf) lf) (nd (o253_0 P) (nd (o381_0 P) lf lf) lf))))))) (nd (PySem.W.boot_o_2 P) (nd (PySem.W.boot_o_4 P) (nd (PySem.W.boot_o_8 P) (nd (o16_0 P) (nd (o32_0 P) (nd (o64_0 P) (nd (o128_0 P) (nd (o256_0 P) lf lf) (nd (o384_0 P) lf lf)) (nd (o192_0 P) (nd (o320_0 P) lf lf) lf)) (nd (o96_0 P) (nd (o160_0 P) (nd (o288_0 P) lf lf) lf) (nd (o224_0 P) (nd (o352_0 P) lf lf) lf))) (nd (o48_0 P) (nd (o80_0 P) (nd (o144_0 P) (nd (o272_0 P) lf lf) (nd (o400_0 P) lf lf)) (nd (o208_0 P) (nd (o336_0 P) lf lf) lf)) (nd (o112_0 P) (nd (o176_0 P) (nd (o304_0 P) lf lf) lf) (nd (o240_0 P) (nd (o368_0 P) lf lf) lf)))) (nd (o24_0 P) (nd (o40_0 P) (nd (o72_0 P) (nd (o136_0 P) (nd (o264_0 P) lf lf) (nd (o392_0 P) lf lf)) (nd (o200_0 P) (nd (o328_0 P) lf lf) lf)) (nd (o104_0 P) (nd (o168_0 P) (nd (o296_0 P) lf lf) lf) (nd (o232_0 P) (nd (o360_0 P) lf lf) lf))) (nd (o56_0 P) (nd (o88_0 P) (nd (o152_0 P) (nd (o280_0 P) lf lf) lf) (nd (o216_0 P) (nd (o344_0 P) lf lf) lf)) (nd (o120_0 P) (nd (o184_0 P) (nd (o312_0 P) lf lf) lf) (nd (o248_0 P) (nd (o376_0 P) lf lf) lf))))) (nd (o12_2 P) (nd (o20_0 P) (nd (o36_0 P) (nd (o68_0 P) (nd (o132_0 P) (nd (o260_0 P) lf lf) (nd (o388_0 P) lf lf)) (nd (o196_0 P) (nd (o324_0 P) lf lf) lf)) (nd (o100_0 P) (nd (o164_0 P) (nd (o292_0 P) lf lf) lf) (nd (o228_0 P) (nd (o356_0 P) lf lf) lf))) (nd (o52_0 P) (nd (o84_0 P) (nd (o148_0 P) (nd (o276_0 P) lf lf) lf) (nd (o212_0 P) (nd (o340_0 P) lf lf) lf)) (nd (o116_0 P) (nd (o180_0 P) (nd (o308_0 P) lf lf) lf) (nd (o244_0 P) (nd (o372_0 P) lf lf) lf)))) (nd (o28_0 P) (nd (o44_0 P) (nd (o76_0 P) (nd (o140_0 P) (nd (o268_0 P) lf lf) (nd (o396_0 P) lf lf)) (nd (o204_0 P) (nd (o332_0 P) lf lf) lf)) (nd (o108_0 P) (nd (o172_0 P) (nd (o300_0 P) lf lf) lf) (nd (o236_0 P) (nd (o364_0 P) lf lf) lf))) (nd (o60_0 P) (nd (o92_0 P) (nd (o156_0 P) (nd (o284_0 P) lf lf) lf) (nd (o220_0 P) (nd (o348_0 P) lf lf) lf)) (nd (o124_0 P) (nd (o188_0 P) (nd (o316_0 P) lf lf) lf) (nd (o252_0 P) (nd (o380_0 P) lf lf) lf)))))) (nd (PySem.W.boot_o_6 P) (nd (PySem.W.boot_o_10 P) (nd (o18_0 P) (nd (o34_0 P) (nd (o66_0 P) (nd (o130_0 P) (nd (o258_0 P) lf lf) (nd (o386_0 P) lf lf)) (nd (o194_0 P) (nd (o322_0 P) lf lf) lf)) (nd (o98_0 P) (nd (o162_0 P) (nd (o290_0 P) lf lf) lf) (nd (o226_0 P) (nd (o354_0 P) lf lf) lf))) (nd (o50_0 P) (nd (o82_0 P) (nd (o146_0 P) (nd (o274_0 P) lf lf) (nd (o402_0 P) lf lf)) (nd (o210_0 P) (nd (o338_0 P) lf lf) lf)) (nd (o114_0 P) (nd (o178_0 P) (nd (o306_0 P) lf lf) lf) (nd (o242_0 P) (nd (o370_0 P) lf lf) lf)))) (nd (o26_0 P) (nd (o42_0 P) (nd (o74_0 P) (nd (o138_0 P) (nd (o266_0 P) lf lf) (nd (o394_0 P) lf lf)) (nd (o202_0 P) (nd (o330_0 P) lf lf) lf)) (nd (o106_0 P) (nd (o170_0 P) (nd (o298_0 P) lf lf) lf) (nd (o234_0 P) (nd (o362_0 P) lf lf) lf))) (nd (o58_0 P) (nd (o90_0 P) (nd (o154_0 P) (nd (o282_0 P) lf lf) lf) (nd (o218_0 P) (nd (o346_0 P) lf lf) lf)) (nd (o122_0 P) (nd (o186_0 P) (nd (o314_0 P) lf lf) lf) (nd (o250_0 P) (nd (o378_0 P) lf lf) lf))))) (nd (o14_0 P) (nd (o22_0 P) (nd (o38_0 P) (nd (o70_0 P) (nd (o134_0 P) (nd (o262_0 P) lf lf) (nd (o390_0 P) lf lf)) (nd (o198_0 P) (nd (o326_0 P) lf lf) lf)) (nd (o102_0 P) (nd (o166_0 P) (nd (o294_0 P) lf lf) lf) (nd (o230_0 P) (nd (o358_0 P) lf lf) lf))) (nd (o54_0 P) (nd (o86_0 P) (nd (o150_0 P) (nd (o278_0 P) lf lf) lf) (nd (o214_0 P) (nd (o342_0 P) lf lf) lf)) (nd (o118_0 P) (nd (o182_0 P) (nd (o310_0 P) lf lf) lf) (nd (o246_0 P) (nd (o374_0 P) lf lf) lf)))) (nd (o30_0 P) (nd (o46_0 P) (nd (o78_0 P) (nd (o142_0 P) (nd (o270_0 P) lf lf) (nd (o398_0 P) lf lf)) (nd (o206_0 P) (nd (o334_0 P) lf lf) lf)) (nd (o110_0 P) (nd (o174_0 P) (nd (o302_0 P) lf lf) lf) (nd (o238_0 P) (nd (o366_0 P) lf lf) lf))) (nd (o62_0 P) (nd (o94_0 P) (nd (o158_0 P) (nd (o286_0 P) lf lf) lf) (nd (o222_0 P) (nd (o350_0 P) lf lf) lf)) (nd (o126_0 P) (nd (o190_0 P) (nd (o318_0 P) lf lf) lf) (nd (o254_0 P) (nd (o382_0 P) lf lf) lf))))))))
def s3 (w : World) (os : OsState) : SharedT := ⟨t3 w.params, 403, { }, #[], ⟨0, 0, 0, 0⟩, 751, os⟩
abbrev l3 : List Stmt := (bE.drop 25).take 18
theorem seg3 (w : World) (os : OsState) : segRunT treeTable pr w 11 annV 1 1087 (s2 w os) (piecesOf l3 env cE ⟨123, 0, 123, 6⟩ fB) = some (.next, s3 w os, cE, ⟨268, 0, 289, 61⟩) := seg_q (by kernel_rfl)
theorem fin (w : World) (os : OsState) : topRun treeTable pr w 11 annV 2 (s3 w os).abs ⟨doneF .next, cE, ⟨268, 0, 289, 61⟩, fB⟩ = some (s3 w os).abs := by kernel_rfl
theorem parts : bE = l1 ++ (l2 ++ (l3 ++ [])) := by kernel_rfl
theorem whole (w : World) (os : OsState) : topRun treeTable pr w 11 annV 3213 ⟨boot_heap w.params, #[], boot_drawn, boot_toks, os⟩ (topStub pr) = some (s3 w os).abs := by
  have k := piece_app (segRun_of (seg1 w os)) (piece_app (segRun_of (seg2 w os)) (piece_app (segRun_of (seg3 w os)) (piece_nil (fin w os))))
  rw [← parts] at k
  exact go_top (n := 12) (N := 3201) (pre w os) (piece_block (n := 1) (N := 3200) (blk w os) k)
def hK : Params → PySem.W.Frag := fun P => ((nat_lit 2, PySem.W.boot_o_2 P) :: (nat_lit 3, o3_2 P) :: (nat_lit 15, o15_0 P) :: (nat_lit 17, o17_0 P) :: (nat_lit 18, o18_0 P) :: (nat_lit 20, o20_0 P) :: (nat_lit 21, o21_0 P) :: (nat_lit 22, o22_0 P) :: (nat_lit 24, o24_0 P) :: (nat_lit 25, o25_0 P) :: (nat_lit 27, o27_0 P) :: (nat_lit 28, o28_0 P) :: (nat_lit 36, o36_0 P) :: (nat_lit 37, o37_0 P) :: (nat_lit 38, o38_0 P) :: (nat_lit 39, o39_0 P) :: (nat_lit 42, o42_0 P) :: (nat_lit 43, o43_0 P) :: (nat_lit 44, o44_0 P) :: (nat_lit 45, o45_0 P) :: (nat_lit 46, o46_0 P) :: (nat_lit 47, o47_0 P) :: (nat_lit 48, o48_0 P) :: (nat_lit 58, o58_0 P) :: (nat_lit 60, o60_0 P) :: (nat_lit 61, o61_0 P) :: (nat_lit 63, o63_0 P) :: (nat_lit 64, o64_0 P) :: (nat_lit 65, o65_0 P) :: (nat_lit 66, o66_0 P) :: (nat_lit 67, o67_0 P) :: (nat_lit 68, o68_0 P) :: (nat_lit 69, o69_0 P) :: (nat_lit 72, o72_0 P) :: (nat_lit 74, o74_0 P) :: (nat_lit 75, o75_0 P) :: (nat_lit 77, o77_0 P) :: (nat_lit 78, o78_0 P) :: (nat_lit 79, o79_0 P) :: (nat_lit 82, o82_0 P) :: (nat_lit 83, o83_0 P) :: (nat_lit 84, o84_0 P) :: (nat_lit 87, o87_0 P) :: (nat_lit 88, o88_0 P) :: (nat_lit 89, o89_0 P) :: (nat_lit 92, o92_0 P) :: (nat_lit 93, o93_0 P) :: (nat_lit 94, o94_0 P) :: (nat_lit 101, o101_0 P) :: (nat_lit 102, o102_0 P) :: (nat_lit 103, o103_0 P) :: (nat_lit 104, o104_0 P) :: (nat_lit 107, o107_0 P) :: (nat_lit 114, o114_0 P) :: (nat_lit 115, o115_0 P) :: (nat_lit 116, o116_0 P) :: (nat_lit 119, o119_0 P) :: (nat_lit 126, o126_0 P) :: (nat_lit 127, o127_0 P) :: (nat_lit 128, o128_0 P) :: (nat_lit 131, o131_0 P) :: (nat_lit 133, o133_0 P) :: (nat_lit 134, o134_0 P) :: (nat_lit 136, o136_0 P) :: (nat_lit 137, o137_0 P) :: (nat_lit 138, o138_0 P) :: (nat_lit 141, o141_0 P) :: (nat_lit 142, o142_0 P) :: (nat_lit 150, o150_0 P) :: (nat_lit 151, o151_0 P) :: (nat_lit 153, o153_0 P) :: (nat_lit 154, o154_0 P) :: (nat_lit 156, o156_0 P) :: (nat_lit 157, o157_0 P) :: (nat_lit 158, o158_0 P) :: (nat_lit 161, o161_0 P) :: (nat_lit 162, o162_0 P) :: (nat_lit 163, o163_0 P) :: (nat_lit 164, o164_0 P) :: (nat_lit 165, o165_0 P) :: (nat_lit 166, o166_0 P) :: (nat_lit 167, o167_0 P) :: (nat_lit 170, o170_0 P) :: (nat_lit 172, o172_0 P) :: (nat_lit 173, o173_0 P) :: (nat_lit 175, o175_0 P) :: (nat_lit 176, o176_0 P) :: (nat_lit 177, o177_0 P) :: (nat_lit 179, o179_0 P) :: (nat_lit 180, o180_0 P) :: (nat_lit 182, o182_0 P) :: (nat_lit 183, o183_0 P) :: (nat_lit 191, o191_0 P) :: (nat_lit 192, o192_0 P) :: (nat_lit 193, o193_0 P) :: (nat_lit 194, o194_0 P) :: (nat_lit 197, o197_0 P) :: (nat_lit 198, o198_0 P) :: (nat_lit 199, o199_0 P) :: (nat_lit 201, o201_0 P) :: (nat_lit 202, o202_0 P) :: (nat_lit 204, o204_0 P) :: (nat_lit 205, o205_0 P) :: (nat_lit 206, o206_0 P) :: (nat_lit 208, o208_0 P) :: (nat_lit 209, o209_0 P) :: (nat_lit 211, o211_0 P) :: (nat_lit 212, o212_0 P) :: (nat_lit 213, o213_0 P) :: (nat_lit 215, o215_0 P) :: (nat_lit 216, o216_0 P) :: (nat_lit 218, o218_0 P) :: (nat_lit 219, o219_0 P) :: (nat_lit 220, o220_0 P) :: (nat_lit 221, o221_0 P) :: (nat_lit 222, o222_0 P) :: (nat_lit 223, o223_0 P) :: (nat_lit 224, o224_0 P) :: (nat_lit 227, o227_0 P) :: (nat_lit 228, o228_0 P) :: (nat_lit 229, o229_0 P) :: (nat_lit 230, o230_0 P) :: (nat_lit 231, o231_0 P) :: (nat_lit 232, o232_0 P) :: (nat_lit 233, o233_0 P) :: (nat_lit 234, o234_0 P) :: (nat_lit 236, o236_0 P) :: (nat_lit 237, o237_0 P) :: (nat_lit 239, o239_0 P) :: (nat_lit 240, o240_0 P) :: (nat_lit 241, o241_0 P) :: (nat_lit 243, o243_0 P) :: (nat_lit 244, o244_0 P) :: (nat_lit 246, o246_0 P) :: (nat_lit 247, o247_0 P) :: (nat_lit 248, o248_0 P) :: (nat_lit 250, o250_0 P) :: (nat_lit 251, o251_0 P) :: (nat_lit 253, o253_0 P) :: (nat_lit 254, o254_0 P) :: (nat_lit 255, o255_0 P) :: (nat_lit 257, o257_0 P) :: (nat_lit 258, o258_0 P) :: (nat_lit 260, o260_0 P) :: (nat_lit 261, o261_0 P) :: (nat_lit 262, o262_0 P) :: (nat_lit 264, o264_0 P) :: (nat_lit 265, o265_0 P) :: (nat_lit 267, o267_0 P) :: (nat_lit 268, o268_0 P) :: (nat_lit 276, o276_0 P) :: (nat_lit 277, o277_0 P) :: (nat_lit 278, o278_0 P) :: (nat_lit 281, o281_0 P) :: (nat_lit 282, o282_0 P) :: (nat_lit 283, o283_0 P) :: (nat_lit 285, o285_0 P) :: (nat_lit 286, o286_0 P) :: (nat_lit 288, o288_0 P) :: (nat_lit 289, o289_0 P) :: (nat_lit 290, o290_0 P) :: (nat_lit 291, o291_0 P) :: (nat_lit 293, o293_0 P) :: (nat_lit 294, o294_0 P) :: (nat_lit 296, o296_0 P) :: (nat_lit 297, o297_0 P) :: (nat_lit 298, o298_0 P) :: (nat_lit 299, o299_0 P) :: (nat_lit 301, o301_0 P) :: (nat_lit 302, o302_0 P) :: (nat_lit 304, o304_0 P) :: (nat_lit 305, o305_0 P) :: (nat_lit 306, o306_0 P) :: (nat_lit 308, o308_0 P) :: (nat_lit 309, o309_0 P) :: (nat_lit 311, o311_0 P) :: (nat_lit 312, o312_0 P) :: (nat_lit 313, o313_0 P) :: (nat_lit 315, o315_0 P) :: (nat_lit 316, o316_0 P) :: (nat_lit 318, o318_0 P) :: (nat_lit 319, o319_0 P) :: (nat_lit 320, o320_0 P) :: (nat_lit 322, o322_0 P) :: (nat_lit 323, o323_0 P) :: (nat_lit 325, o325_0 P) :: (nat_lit 326, o326_0 P) :: (nat_lit 327, o327_0 P) :: (nat_lit 329, o329_0 P) :: (nat_lit 330, o330_0 P) :: (nat_lit 332, o332_0 P) :: (nat_lit 333, o333_0 P) :: (nat_lit 334, o334_0 P) :: (nat_lit 336, o336_0 P) :: (nat_lit 337, o337_0 P) :: (nat_lit 339, o339_0 P) :: (nat_lit 340, o340_0 P) :: (nat_lit 341, o341_0 P) :: (nat_lit 343, o343_0 P) :: (nat_lit 344, o344_0 P) :: (nat_lit 346, o346_0 P) :: (nat_lit 347, o347_0 P) :: (nat_lit 348, o348_0 P) :: (nat_lit 349, o349_0 P) :: (nat_lit 350, o350_0 P) :: (nat_lit 351, o351_0 P) :: (nat_lit 352, o352_0 P) :: (nat_lit 355, o355_0 P) :: (nat_lit 357, o357_0 P) :: (nat_lit 358, o358_0 P) :: (nat_lit 360, o360_0 P) :: (nat_lit 361, o361_0 P) :: (nat_lit 362, o362_0 P) :: (nat_lit 364, o364_0 P) :: (nat_lit 365, o365_0 P) :: (nat_lit 367, o367_0 P) :: (nat_lit 368, o368_0 P) :: (nat_lit 369, o369_0 P) :: (nat_lit 372, o372_0 P) :: (nat_lit 373, o373_0 P) :: (nat_lit 374, o374_0 P) :: (nat_lit 376, o376_0 P) :: (nat_lit 377, o377_0 P) :: (nat_lit 379, o379_0 P) :: (nat_lit 380, o380_0 P) :: (nat_lit 381, o381_0 P) :: (nat_lit 383, o383_0 P) :: (nat_lit 384, o384_0 P) :: (nat_lit 386, o386_0 P) :: (nat_lit 387, o387_0 P) :: (nat_lit 388, o388_0 P) :: (nat_lit 391, o391_0 P) :: (nat_lit 392, o392_0 P) :: (nat_lit 393, o393_0 P) :: (nat_lit 396, o396_0 P) :: (nat_lit 397, o397_0 P) :: (nat_lit 398, o398_0 P) :: (nat_lit 401, o401_0 P) :: (nat_lit 402, o402_0 P) :: [])
def hA : List Addr := (nat_lit 2 :: nat_lit 3 :: nat_lit 15 :: nat_lit 17 :: nat_lit 18 :: nat_lit 20 :: nat_lit 21 :: nat_lit 22 :: nat_lit 24 :: nat_lit 25 :: nat_lit 27 :: nat_lit 28 :: nat_lit 36 :: nat_lit 37 :: nat_lit 38 :: nat_lit 39 :: nat_lit 42 :: nat_lit 43 :: nat_lit 44 :: nat_lit 45 :: nat_lit 46 :: nat_lit 47 :: nat_lit 48 :: nat_lit 58 :: nat_lit 60 :: nat_lit 61 :: nat_lit 63 :: nat_lit 64 :: nat_lit 65 :: nat_lit 66 :: nat_lit 67 :: nat_lit 68 :: nat_lit 69 :: nat_lit 72 :: nat_lit 74 :: nat_lit 75 :: nat_lit 77 :: nat_lit 78 :: nat_lit 79 :: nat_lit 82 :: nat_lit 83 :: nat_lit 84 :: nat_lit 87 :: nat_lit 88 :: nat_lit 89 :: nat_lit 92 :: nat_lit 93 :: nat_lit 94 :: nat_lit 101 :: nat_lit 102 :: nat_lit 103 :: nat_lit 104 :: nat_lit 107 :: nat_lit 114 :: nat_lit 115 :: nat_lit 116 :: nat_lit 119 :: nat_lit 126 :: nat_lit 127 :: nat_lit 128 :: nat_lit 131 :: nat_lit 133 :: nat_lit 134 :: nat_lit 136 :: nat_lit 137 :: nat_lit 138 :: nat_lit 141 :: nat_lit 142 :: nat_lit 150 :: nat_lit 151 :: nat_lit 153 :: nat_lit 154 :: nat_lit 156 :: nat_lit 157 :: nat_lit 158 :: nat_lit 161 :: nat_lit 162 :: nat_lit 163 :: nat_lit 164 :: nat_lit 165 :: nat_lit 166 :: nat_lit 167 :: nat_lit 170 :: nat_lit 172 :: nat_lit 173 :: nat_lit 175 :: nat_lit 176 :: nat_lit 177 :: nat_lit 179 :: nat_lit 180 :: nat_lit 182 :: nat_lit 183 :: nat_lit 191 :: nat_lit 192 :: nat_lit 193 :: nat_lit 194 :: nat_lit 197 :: nat_lit 198 :: nat_lit 199 :: nat_lit 201 :: nat_lit 202 :: nat_lit 204 :: nat_lit 205 :: nat_lit 206 :: nat_lit 208 :: nat_lit 209 :: nat_lit 211 :: nat_lit 212 :: nat_lit 213 :: nat_lit 215 :: nat_lit 216 :: nat_lit 218 :: nat_lit 219 :: nat_lit 220 :: nat_lit 221 :: nat_lit 222 :: nat_lit 223 :: nat_lit 224 :: nat_lit 227 :: nat_lit 228 :: nat_lit 229 :: nat_lit 230 :: nat_lit 231 :: nat_lit 232 :: nat_lit 233 :: nat_lit 234 :: nat_lit 236 :: nat_lit 237 :: nat_lit 239 :: nat_lit 240 :: nat_lit 241 :: nat_lit 243 :: nat_lit 244 :: nat_lit 246 :: nat_lit 247 :: nat_lit 248 :: nat_lit 250 :: nat_lit 251 :: nat_lit 253 :: nat_lit 254 :: nat_lit 255 :: nat_lit 257 :: nat_lit 258 :: nat_lit 260 :: nat_lit 261 :: nat_lit 262 :: nat_lit 264 :: nat_lit 265 :: nat_lit 267 :: nat_lit 268 :: nat_lit 276 :: nat_lit 277 :: nat_lit 278 :: nat_lit 281 :: nat_lit 282 :: nat_lit 283 :: nat_lit 285 :: nat_lit 286 :: nat_lit 288 :: nat_lit 289 :: nat_lit 290 :: nat_lit 291 :: nat_lit 293 :: nat_lit 294 :: nat_lit 296 :: nat_lit 297 :: nat_lit 298 :: nat_lit 299 :: nat_lit 301 :: nat_lit 302 :: nat_lit 304 :: nat_lit 305 :: nat_lit 306 :: nat_lit 308 :: nat_lit 309 :: nat_lit 311 :: nat_lit 312 :: nat_lit 313 :: nat_lit 315 :: nat_lit 316 :: nat_lit 318 :: nat_lit 319 :: nat_lit 320 :: nat_lit 322 :: nat_lit 323 :: nat_lit 325 :: nat_lit 326 :: nat_lit 327 :: nat_lit 329 :: nat_lit 330 :: nat_lit 332 :: nat_lit 333 :: nat_lit 334 :: nat_lit 336 :: nat_lit 337 :: nat_lit 339 :: nat_lit 340 :: nat_lit 341 :: nat_lit 343 :: nat_lit 344 :: nat_lit 346 :: nat_lit 347 :: nat_lit 348 :: nat_lit 349 :: nat_lit 350 :: nat_lit 351 :: nat_lit 352 :: nat_lit 355 :: nat_lit 357 :: nat_lit 358 :: nat_lit 360 :: nat_lit 361 :: nat_lit 362 :: nat_lit 364 :: nat_lit 365 :: nat_lit 367 :: nat_lit 368 :: nat_lit 369 :: nat_lit 372 :: nat_lit 373 :: nat_lit 374 :: nat_lit 376 :: nat_lit 377 :: nat_lit 379 :: nat_lit 380 :: nat_lit 381 :: nat_lit 383 :: nat_lit 384 :: nat_lit 386 :: nat_lit 387 :: nat_lit 388 :: nat_lit 391 :: nat_lit 392 :: nat_lit 393 :: nat_lit 396 :: nat_lit 397 :: nat_lit 398 :: nat_lit 401 :: nat_lit 402 :: [])
theorem hE : ∀ P, hA = (hK P).map (·.1) := fun _ => by kernel_rfl
def hT : List Addr := (nat_lit 16 :: nat_lit 23 :: nat_lit 40 :: nat_lit 59 :: nat_lit 73 :: nat_lit 80 :: nat_lit 85 :: nat_lit 90 :: nat_lit 132 :: nat_lit 139 :: nat_lit 152 :: nat_lit 159 :: nat_lit 171 :: nat_lit 178 :: nat_lit 195 :: nat_lit 200 :: nat_lit 207 :: nat_lit 214 :: nat_lit 235 :: nat_lit 242 :: nat_lit 249 :: nat_lit 256 :: nat_lit 263 :: nat_lit 279 :: nat_lit 284 :: nat_lit 292 :: nat_lit 300 :: nat_lit 307 :: nat_lit 314 :: nat_lit 321 :: nat_lit 328 :: nat_lit 335 :: nat_lit 342 :: nat_lit 356 :: nat_lit 363 :: nat_lit 370 :: nat_lit 375 :: nat_lit 382 :: nat_lit 389 :: nat_lit 394 :: nat_lit 399 :: [])
def nm0 : List PySem.Str := ["_wall", "distance", "Sketch", "Layout", "nearest", "mean", "move", "train", "SurenearError", "InvalidSchema", "InvalidRule", "check_rule", "neighbours", "Lists", "same_value", "same_fields", "Record", "RANGES", "MEASURES", "KINDS", "WORDS", "is_letter", "is_digit", "is_field_name", "kind_of_value", "words_fit", "Schema", "_law_row", "_law_next", "_law_rows_of"]
def nm1 : List PySem.Str := ["_law_distance", "_law_nearest", "_law_shown", "_law_cells"]
def names : List PySem.Str := nm0 ++ nm1
abbrev qv : Program := view pr [42]
theorem looks (w : World) (os : OsState) : (looksH pr (boot_heap w.params) (s3 w os).abs, seenH qv names (importedModules pr.main.body) (fun s => xlAt qv [] s && recOk RR.toRowW.records s) (s3 w os).abs, hA.map (HandSHeadRun.getT (s3 w os)), hT.map (HandSHeadRun.getT (s3 w os))) = (true, openGood qv names, (hK w.params).map (fun x => some x.2), hT.map fun _ => some (tabObj #[])) := by kernel_rfl
theorem run (w : World) (os : OsState) : ∃ s : Shared, topRun treeTable pr w 11 annV 3213 ⟨boot_heap w.params, #[], boot_drawn, boot_toks, os⟩ (topStub pr) = some s ∧ looksH pr (boot_heap w.params) s = true ∧ openSeen qv names (importedModules pr.main.body) (fun s => xlAt qv [] s && recOk RR.toRowW.records s) true s = openGood qv names ∧ (kmHook hK hA hE hT).obs s = (kmHook hK hA hE hT).val w := 
  looks_runT (whole w os) (looks w os)
abbrev lawD : DefRec := HandSHeadRun.topDef pr 42
theorem lawD_name : lawD.name = ("law" : PySem.Str) := by kernel_rfl
theorem left : LeftO pr qv names (fun s => xlAt qv [] s && recOk RR.toRowW.records s) (kmHook hK hA hE hT).obs (kmHook hK hA hE hT).val 3813 true := left_run (n0 := 11) (ann := annV) (M := 3213) (by kernel_rfl) (by decide) (fun s => by kernel_rfl) (by decide) (fun w => by kernel_rfl) (fun w => by kernel_rfl) run
end ZH
end
namespace Z
open PySem PySem.Spec L2
open C8 (tCut pss_cut)

def MulOk (i j : Int) : Prop := CMul i j ∨ CMulW i j
def uAdd (K : PySem.W.Frag) : R2 := fun x y H Q => match x, y with
  | .int i, .int j => Q (.int (i + j)) H
  | .str a, .str b => a.length + b.length ≤ sizeLine ∧ Q (.str (a ++ b)) H
  | .ref l, .ref b => rCat (.ref l) (.ref b) H Q ∨ rCatA K (.ref l) (.ref b) H Q
  | _, _ => False
def uSub : R2 := fun x y H Q => match x, y with
  | .int i, .int j => Q (.int (i - j)) H
  | _, _ => False
def uMul : R2 := fun x y H Q => match x, y with
  | .int i, .int j => MulOk i j ∧ Q (.int (i * j)) H
  | _, _ => False
def uDiv : R2 := fun x y H Q => match x, y with
  | .int i, .int j => CDivW i j ∧ Q (.int (i / j)) H
  | _, _ => False
def uMod : R2 := fun x y H Q => match x, y with
  | .int i, .int j => 0 < j ∧ Q (.int (i % j)) H
  | _, _ => False
def uPow : R2 := fun x y H Q => match x, y with
  | .int i, .int j => CPow i j ∧ Q (.int (i ^ j.toNat)) H
  | _, _ => False
def uNeg : V → Hp → VK → Prop := fun x H Q => match x with
  | .int i => Q (.int (-i)) H
  | _ => False
def ltV1 : V → V → Bool
  | .int i, .int j => decide (i < j)
  | .str a, .str b => decide (a.cps.toList < b.cps.toList)
  | _, _ => false
def same1 : V → V → Bool
  | .int _, .int _ => true
  | .str _, .str _ => true
  | _, _ => false
def ltV2 (xs ys : List V) (j : Nat) : Bool := match xs[j]?, ys[j]? with | some u, some v => ltV1 u v | _, _ => false
def rLtP (K : PySem.W.Frag) (a b : Addr) (H : Hp) (Q : VK) : Prop := ∃ xs ys : List V, SqT K H a xs ∧ SqT K H b ys ∧ (∀ (j : Nat) (u v : V), xs[j]? = some u → ys[j]? = some v → same1 u v = true) ∧
  Q (.bl (Ob.lexAt (fun j => decide (xs[j]? = ys[j]?)) (ltV2 xs ys) (decide (xs.length < ys.length)) 0 (min xs.length ys.length))) H
def uLt (K : PySem.W.Frag) : R2 := fun x y H Q => match x, y with
  | .int i, .int j => Q (.bl (decide (i < j))) H
  | .str i, .str j => Q (.bl (decide (i.cps.toList < j.cps.toList))) H
  | .ref a, .ref b => rLtT K (.ref a) (.ref b) H Q ∨ rLtP K a b H Q
  | _, _ => False
def uLe : R2 := fun x y H Q => match x, y with
  | .int i, .int j => Q (.bl (decide (i ≤ j))) H
  | .str i, .str j => Q (.bl (!decide (j.cps.toList < i.cps.toList))) H
  | _, _ => False
def uGt : R2 := fun x y H Q => match x, y with
  | .int i, .int j => Q (.bl (decide (j < i))) H
  | .str i, .str j => Q (.bl (decide (j.cps.toList < i.cps.toList))) H
  | _, _ => False
def uGe : R2 := fun x y H Q => match x, y with
  | .int i, .int j => Q (.bl (decide (j ≤ i))) H
  | .str i, .str j => Q (.bl (!decide (i.cps.toList < j.cps.toList))) H
  | _, _ => False
def sameSq (K : PySem.W.Frag) (H : Hp) (a c : Addr) (xs ys : List V) : Prop := (SqT K H a xs ∧ SqT K H c ys) ∨ (SqL K H a xs ∧ SqL K H c ys)
def allB (xs ys : List V) (e : Nat → Bool) : Bool := (List.range (min xs.length ys.length)).all e && (xs.length == ys.length)
def EqB (K : PySem.W.Frag) (H : Hp) : Nat → V → V → Bool → Prop
  | 0 => fun x y b => (flatV x = true ∧ flatV y = true ∧ b = eqV x y) ∨ (∃ a, x = .ref a ∧ y = .ref a ∧ b = true)
  | n + 1 => fun x y b => EqB K H n x y b ∨ ∃ a c xs ys e, x = .ref a ∧ y = .ref c ∧ sameSq K H a c xs ys ∧ (∀ (i : Nat) (x y : V), xs[i]? = some x → ys[i]? = some y → EqB K H n x y (e i)) ∧ b = allB xs ys e
def rSqB (K : PySem.W.Frag) (a c : Addr) (H : Hp) (Q : Bool → Prop) : Prop := ∃ n xs ys e, n ≤ 16 ∧ sameSq K H a c xs ys ∧ (∀ (i : Nat) (x y : V), xs[i]? = some x → ys[i]? = some y → EqB K H n x y (e i)) ∧ Q (allB xs ys e)
theorem sq_both {X : Cx} {pins : List (Addr × Obj)} {σ : L2.St} {H : Hp} {s : Shared} {A : Around} {a c : Addr} {xs ys : List V} {e : Nat → Bool} (I : Inv X pins σ H s) (hu : A.units < cLine) (h : sameSq X.K H a c xs ys)
    (he : ∀ (i : Nat) (x y : V), xs[i]? = some x → ys[i]? = some y → ∀ u v, RelV x u → RelV y v → SeqAt.EqAt A.in1 s u v (e i)) : SeqAt.RcAt A s (.ref a) (.ref c) (allB xs ys e) ∧ SeqAt.RcNeAt A s (.ref a) (.ref c) (!allB xs ys e) := by
  have items : ∀ {us vs : List Value}, Vals xs us → Vals ys vs → ∀ (j : Nat) (h1 : j < us.toArray.size) (h2 : j < vs.toArray.size), SeqAt.EqAt A.in1 s us.toArray[j] vs.toArray[j] (e j) := by
    intro us vs r1 r2 j h1 h2
    have l1 := r1.length
    have l2 := r2.length
    have k1 : j < us.length := by simpa using h1
    have k2 : j < vs.length := by simpa using h2
    obtain ⟨u, eu, ru⟩ := Vals.get r1 (List.getElem?_eq_getElem (show j < xs.length by omega))
    obtain ⟨v, ev, rv⟩ := Vals.get r2 (List.getElem?_eq_getElem (show j < ys.length by omega))
    have z1 : us.toArray[j] = u := by rw [List.getElem?_eq_getElem k1] at eu; simpa using Option.some.inj eu
    have z2 : vs.toArray[j] = v := by rw [List.getElem?_eq_getElem k2] at ev; simpa using Option.some.inj ev
    rw [z1, z2]
    exact he j _ _ (List.getElem?_eq_getElem (show j < xs.length by omega)) (List.getElem?_eq_getElem (show j < ys.length by omega)) u v ru rv
  rcases h with ⟨ha, hc⟩ | ⟨ha, hc⟩
  · obtain ⟨us, r1, p1, _⟩ := I.tuple ha
    obtain ⟨vs, r2, p2, _⟩ := I.tuple hc
    have z : ((List.range (min us.toArray.size vs.toArray.size)).all e && us.toArray.size == vs.toArray.size) = allB xs ys e := by
      unfold allB
      rw [show us.toArray.size = xs.length by simpa using r1.length.symm, show vs.toArray.size = ys.length by simpa using r2.length.symm]
    refine ⟨?_, ?_⟩
    · rw [← z]; exact SeqAt.RcAt.tuples p1 p2 hu (items r1 r2)
    · rw [← z]; exact SeqAt.RcNeAt.tuples p1 p2 hu (items r1 r2)
  · obtain ⟨us, r1, p1, _⟩ := I.list ha
    obtain ⟨vs, r2, p2, _⟩ := I.list hc
    have n1 : us.toArray.size = xs.length := by simpa using r1.length.symm
    have n2 : vs.toArray.size = ys.length := by simpa using r2.length.symm
    by_cases hl : xs.length = ys.length
    · have z : (List.range us.toArray.size).all e = allB xs ys e := by
        unfold allB
        rw [n1, hl, Nat.min_self, beq_self_eq_true, Bool.and_true]
      refine ⟨?_, ?_⟩
      · rw [← z]; exact SeqAt.RcAt.lists p1.isList p2.isList (by omega) hu (items r1 r2)
      · rw [← z]; exact SeqAt.RcNeAt.lists p1.isList p2.isList (by omega) hu (items r1 r2)
    · have z : allB xs ys e = false := by unfold allB; simp [hl]
      have ne : (us.toArray.size != vs.toArray.size) = true := by rw [n1, n2]; simpa using hl
      rw [z]
      exact ⟨SeqAt.RcAt.lists_lengths p1.isList p2.isList ne hu, SeqAt.RcNeAt.lists_lengths p1.isList p2.isList ne hu⟩
theorem EqB.det {X : Cx} {pins : List (Addr × Obj)} {σ : L2.St} {H : Hp} {s : Shared} (I : Inv X pins σ H s) : ∀ (n : Nat) (x : V) (b : Bool), EqB X.K H n x x b → b = true
  | 0, x, b, h => by
    rcases h with ⟨fx, _, rfl⟩ | ⟨a, _, _, rfl⟩
    · cases x <;> first | (cases fx; done) | (simp [eqV]; done)
    · rfl
  | n + 1, x, b, h => by
    rcases h with h | ⟨a, c, xs, ys, e, rfl, e2, hs, he, rfl⟩
    · exact EqB.det I n x b h
    · cases e2
      have z : xs = ys := by
        rcases hs with ⟨h1, h2⟩ | ⟨h1, h2⟩
        · exact I.tuple_inj h1 h2
        · exact I.list_inj h1 h2
      subst z
      unfold allB
      rw [Nat.min_self, beq_self_eq_true, Bool.and_true, List.all_eq_true]
      intro i hi
      have hi := List.mem_range.mp hi
      exact EqB.det I n _ _ (he i _ _ (List.getElem?_eq_getElem hi) (List.getElem?_eq_getElem hi))
theorem EqB.at {X : Cx} {pins : List (Addr × Obj)} {σ : L2.St} {H : Hp} {s : Shared} (I : Inv X pins σ H s) : ∀ (n : Nat) (x y : V) (b : Bool) (u v : Value) (A : Around), A.units + n < cLine → EqB X.K H n x y b → RelV x u → RelV y v → SeqAt.EqAt A s u v b
  | 0, x, y, b, u, v, A, _, h, rx, ry => by
    rcases h with ⟨fx, fy, rfl⟩ | ⟨a, rfl, rfl, rfl⟩
    · exact eqAt_V rx ry fx fy
    · cases rx; cases ry; exact SeqAt.EqAt.same _
  | n + 1, x, y, b, u, v, A, hu, h, rx, ry => by
    rcases h with h | ⟨a, c, xs, ys, e, rfl, rfl, hs, he, hb⟩
    · exact EqB.at I n x y b u v A (by omega) h rx ry
    · cases rx; cases ry
      by_cases q : a = c
      · subst q
        rw [EqB.det I (n + 1) (.ref a) b (.inr ⟨a, a, xs, ys, e, rfl, rfl, hs, he, hb⟩)]; exact SeqAt.EqAt.same _
      · rw [hb]
        refine SeqAt.EqAt.of_refs q (sq_both I (by omega) hs fun i x y e1 e2 u v r1 r2 => EqB.at I n x y (e i) u v A.in1 ?_ (he i x y e1 e2) r1 r2).1
        show A.units + 1 + n < cLine
        omega
theorem op_sqB {X : Cx} (hu : X.A.units + 64 < cLine) {pins : List (Addr × Obj)} {σ : L2.St} {H : Hp} {s : Shared} {a c : Addr} {Q : VK} (I : Inv X pins σ H s) :
    (rSqB X.K a c H (fun b => Q (.bl b) H) → wpAny (model X.prog X.w) X.A (compareOp .Eq (.ref a) (.ref c)) (EP X pins σ Q) X.xe s) ∧ (rSqB X.K a c H (fun b => Q (.bl (!b)) H) → wpAny (model X.prog X.w) X.A (compareOp .NotEq (.ref a) (.ref c)) (EP X pins σ Q) X.xe s) := by
  have key : ∀ {n : Nat} {xs ys : List V} {e : Nat → Bool}, n ≤ 16 → sameSq X.K H a c xs ys → (∀ (i : Nat) (x y : V), xs[i]? = some x → ys[i]? = some y → EqB X.K H n x y (e i)) → _ := fun {n xs ys e} hn hs he => sq_both (A := X.A) I (by omega) hs fun i x y e1 e2 u v r1 r2 => EqB.at I n x y (e i) u v X.A.in1 (by show X.A.units + 1 + n < cLine; omega) (he i x y e1 e2) r1 r2
  refine ⟨fun ⟨n, xs, ys, e, hn, hs, he, q⟩ => ?_, fun ⟨n, xs, ys, e, hn, hs, he, q⟩ => ?_⟩
  · exact (key hn hs he).1 X.prog X.w X.xe _ ⟨.bl _, H, I, rfl, q⟩
  · exact (key hn hs he).2 X.prog X.w X.xe _ ⟨.bl _, H, I, rfl, q⟩
def uEq (K : PySem.W.Frag) : R2 := fun x y H Q => match x, y with
  | .int i, .int j => Q (.bl (decide (i = j))) H
  | .str i, .str j => Q (.bl (decide (i = j))) H
  | .bl i, .bl j => Q (.bl (decide (i = j))) H
  | .non, .non => Q (.bl true) H
  | .ref a, .ref b => rEqD K (.ref a) (.ref b) H Q ∨ rSqB K a b H (fun k => Q (.bl k) H)
  | x, y => (scal x y = true ∧ Q (.bl (decide (x = y))) H) ∨ rEqD K x y H Q
def uNe (K : PySem.W.Frag) : R2 := fun x y H Q => match x, y with
  | .int i, .int j => Q (.bl (!decide (i = j))) H
  | .str i, .str j => Q (.bl (!decide (i = j))) H
  | .bl i, .bl j => Q (.bl (!decide (i = j))) H
  | .non, .non => Q (.bl false) H
  | .ref a, .ref b => rNeD K (.ref a) (.ref b) H Q ∨ rSqB K a b H (fun k => Q (.bl (!k)) H)
  | x, y => (scal x y = true ∧ Q (.bl (!decide (x = y))) H) ∨ rNeD K x y H Q
def uIs : R2 := fun x y H Q => match x, y with
  | x, .non => Q (.bl (decide (x = .non))) H
  | .bl a, .bl b => Q (.bl (decide (a = b))) H
  | _, _ => False
def uIsNot : R2 := fun x y H Q => match x, y with
  | x, .non => Q (.bl (!decide (x = .non))) H
  | .bl a, .bl b => Q (.bl (!decide (a = b))) H
  | _, _ => False
def uIn (K : PySem.W.Frag) : R2 := fun x y H Q => match x, y with
  | .str i, .str j => Q (.bl (!(Builtin.Str.occurrences j i 0 j.length 1).isEmpty)) H
  | x, y => rIn K false x y H Q
def uNotIn (K : PySem.W.Frag) : R2 := fun x y H Q => match x, y with
  | .str i, .str j => Q (.bl (!(!(Builtin.Str.occurrences j i 0 j.length 1).isEmpty))) H
  | x, y => rIn K true x y H Q

section
variable {X : Cx}
theorem op_uAdd : OpR X (binaryOp .Add) (uAdd X.K) := by
  intro pins s σ H x y v u Q I rx ry h
  cases x <;> cases y <;> first | exact h.elim | skip
  · exact op_add pins s σ H _ _ _ _ Q I rx ry ⟨_, _, rfl, rfl, h⟩
  · exact op_add_str pins s σ H _ _ _ _ Q I rx ry ⟨_, _, rfl, rfl, h.1, h.2⟩
  · rcases h with h | h
    · exact op_cat pins s σ H _ _ _ _ Q I rx ry h
    · exact op_catA pins s σ H _ _ _ _ Q I rx ry h
theorem op_uSub : OpR X (binaryOp .Sub) uSub := by
  intro pins s σ H x y v u Q I rx ry h
  cases x <;> cases y <;> first | exact h.elim | skip
  exact op_sub pins s σ H _ _ _ _ Q I rx ry ⟨_, _, rfl, rfl, h⟩
theorem op_uMul : OpR X (binaryOp .Mult) uMul := by
  intro pins s σ H x y v u Q I rx ry h
  cases x <;> cases y <;> first | exact h.elim | skip
  rcases h with ⟨h | h, q⟩
  · exact op_mul pins s σ H _ _ _ _ Q I rx ry ⟨_, _, rfl, rfl, h, q⟩
  · exact op_mulW pins s σ H _ _ _ _ Q I rx ry ⟨_, _, rfl, rfl, h, q⟩
theorem op_uDiv : OpR X (binaryOp .FloorDiv) uDiv := by
  intro pins s σ H x y v u Q I rx ry h
  cases x <;> cases y <;> first | exact h.elim | skip
  exact op_fdivW pins s σ H _ _ _ _ Q I rx ry ⟨_, _, rfl, rfl, h.1, h.2⟩
theorem op_uMod : OpR X (binaryOp .Mod) uMod := by
  intro pins s σ H x y v u Q I rx ry h
  cases x <;> cases y <;> first | exact h.elim | skip
  exact op_mod pins s σ H _ _ _ _ Q I rx ry ⟨_, _, rfl, rfl, h.1, h.2⟩
theorem op_uPow : OpR X (binaryOp .Pow) uPow := by
  intro pins s σ H x y v u Q I rx ry h
  cases x <;> cases y <;> first | exact h.elim | skip
  exact op_pow pins s σ H _ _ _ _ Q I rx ry ⟨_, _, rfl, rfl, h.1, h.2⟩
theorem un_uNeg : UnR X (unaryOp .USub) uNeg := by
  intro pins s σ H x v Q I rx h
  cases x <;> first | exact h.elim | skip
  exact un_neg pins s σ H _ _ Q I rx ⟨_, rfl, h⟩
theorem op_ltP (hu : X.A.units < cLine) {pins : List (Addr × Obj)} {s : Shared} {σ : L2.St} {H : Hp} {a b : Addr} {Q : VK} (I : Inv X pins σ H s) (h : rLtP X.K a b H Q) :
    wpAny (model X.prog X.w) X.A (compareOp .Lt (.ref a) (.ref b)) (EP X pins σ Q) X.xe s := by
  obtain ⟨xs, ys, ha, hb, hk, q⟩ := h
  obtain ⟨us, r1, p1, _⟩ := I.tuple ha
  obtain ⟨vs, r2, p2, _⟩ := I.tuple hb
  have l1 := r1.length
  have l2 := r2.length
  have both : ∀ (j : Nat) (h1 : j < us.toArray.size) (h2 : j < vs.toArray.size), ∃ x y : V, xs[j]? = some x ∧ ys[j]? = some y ∧ RelV x us.toArray[j] ∧ RelV y vs.toArray[j] := by
    intro j h1 h2
    have k1 : j < us.length := by simpa using h1
    have k2 : j < vs.length := by simpa using h2
    obtain ⟨u, eu, ru⟩ := Vals.get r1 (List.getElem?_eq_getElem (show j < xs.length by omega))
    obtain ⟨v, ev, rv⟩ := Vals.get r2 (List.getElem?_eq_getElem (show j < ys.length by omega))
    refine ⟨_, _, List.getElem?_eq_getElem (show j < xs.length by omega), List.getElem?_eq_getElem (show j < ys.length by omega), ?_, ?_⟩
    · rw [List.getElem?_eq_getElem k1] at eu
      have : us.toArray[j] = u := by simpa using Option.some.inj eu
      rw [this]; exact ru
    · rw [List.getElem?_eq_getElem k2] at ev
      have : vs.toArray[j] = v := by simpa using Option.some.inj ev
      rw [this]; exact rv
  have R := Ob.RcOp.tuples_lt (A := X.A) (s := s) (e := fun j => decide (xs[j]? = ys[j]?)) (r := ltV2 xs ys) p1 p2 hu (fun j h1 h2 => by
    obtain ⟨x, y, ex, ey, rx, ry⟩ := both j h1 h2
    have k := hk j x y ex ey
    rw [ex, ey]
    cases x <;> cases y <;> first | exact Bool.noConfusion (show false = true from k) | skip
    · rename_i i i'
      obtain ⟨t, et⟩ := rx
      obtain ⟨t', et'⟩ := ry
      rw [et, et', show decide (some (V.int i) = some (V.int i')) = (i == i') by rw [Bool.eq_iff_iff]; simp]
      exact SeqAt.EqAt.int_int _ _ _ _
    · rename_i i i'
      obtain ⟨t, et⟩ := rx
      obtain ⟨t', et'⟩ := ry
      rw [et, et', show decide (some (V.str i) = some (V.str i')) = (i == i') by rw [Bool.eq_iff_iff]; simp]
      exact SeqAt.EqAt.str_str _ _ _ _) (fun j h1 h2 _ => by
    obtain ⟨x, y, ex, ey, rx, ry⟩ := both j h1 h2
    have k := hk j x y ex ey
    rw [show ltV2 xs ys j = ltV1 x y by unfold ltV2; rw [ex, ey]]
    cases x <;> cases y <;> first | exact Bool.noConfusion (show false = true from k) | skip
    · obtain ⟨t, et⟩ := rx
      obtain ⟨t', et'⟩ := ry
      rw [et, et']
      exact Ob.RcOp.lt_int _ _ _ _
    · obtain ⟨t, et⟩ := rx
      obtain ⟨t', et'⟩ := ry
      rw [et, et']
      exact fun _ _ _ _ h => PyProof.Rows.lt_str (by simpa [ltV1] using h))
  rw [show us.toArray.size = xs.length by simpa using l1.symm, show vs.toArray.size = ys.length by simpa using l2.symm] at R
  exact R X.prog X.w X.xe (EP X pins σ Q) ⟨.bl _, H, I, rfl, q⟩
theorem op_uLt (hu : X.A.units + 64 < cLine) : OpR X (compareOp .Lt) (uLt X.K) := by
  intro pins s σ H x y v u Q I rx ry h
  cases x <;> cases y <;> first | exact h.elim | skip
  · exact op_lt pins s σ H _ _ _ _ Q I rx ry ⟨_, _, rfl, rfl, h⟩
  · exact op_lt_str pins s σ H _ _ _ _ Q I rx ry ⟨_, _, rfl, rfl, h⟩
  · rcases h with h | h
    · exact op_ltT (by omega) pins s σ H _ _ _ _ Q I rx ry h
    · cases rx; cases ry; exact op_ltP (by omega) I h
theorem op_uLe : OpR X (compareOp .LtE) uLe := by
  intro pins s σ H x y v u Q I rx ry h
  cases x <;> cases y <;> first | exact h.elim | skip
  · exact op_le pins s σ H _ _ _ _ Q I rx ry ⟨_, _, rfl, rfl, h⟩
  · exact op_le_str pins s σ H _ _ _ _ Q I rx ry ⟨_, _, rfl, rfl, h⟩
theorem op_uGt : OpR X (compareOp .Gt) uGt := by
  intro pins s σ H x y v u Q I rx ry h
  cases x <;> cases y <;> first | exact h.elim | skip
  · exact op_gt pins s σ H _ _ _ _ Q I rx ry ⟨_, _, rfl, rfl, h⟩
  · exact op_gt_str pins s σ H _ _ _ _ Q I rx ry ⟨_, _, rfl, rfl, h⟩
theorem V_int_dec {i j : Int} : decide (V.int i = V.int j) = decide (i = j) := by
  rw [Bool.eq_iff_iff]; simp
theorem V_str_dec {i j : Str} : decide (V.str i = V.str j) = decide (i = j) := by
  rw [Bool.eq_iff_iff]; simp
theorem V_bl_dec {i j : Bool} : decide (V.bl i = V.bl j) = decide (i = j) := by
  rw [Bool.eq_iff_iff]; simp
theorem op_uEq (hu : X.A.units + 64 < cLine) : OpR X (compareOp .Eq) (uEq X.K) := by
  intro pins s σ H x y v u Q I rx ry h
  have gen : (scal x y = true ∧ Q (.bl (decide (x = y))) H) ∨ rEqD X.K x y H Q → _ := fun z => (op_eq.or (op_eqD hu)) pins s σ H x y v u Q I rx ry z
  cases x <;> cases y <;> first | exact gen h | skip
  · exact gen (.inl ⟨rfl, h⟩)
  · exact gen (.inl ⟨rfl, by rw [V_bl_dec]; exact h⟩)
  · exact gen (.inl ⟨rfl, by rw [V_int_dec]; exact h⟩)
  · exact gen (.inl ⟨rfl, by rw [V_str_dec]; exact h⟩)
  · rcases h with h | h
    · exact gen (.inr h)
    · cases rx; cases ry; exact (op_sqB hu I).1 h
theorem op_uNe (hu : X.A.units + 64 < cLine) : OpR X (compareOp .NotEq) (uNe X.K) := by
  intro pins s σ H x y v u Q I rx ry h
  have gen : (scal x y = true ∧ Q (.bl (!decide (x = y))) H) ∨ rNeD X.K x y H Q → _ := fun z => (op_ne.or (op_neD hu)) pins s σ H x y v u Q I rx ry z
  cases x <;> cases y <;> first | exact gen h | skip
  · exact gen (.inl ⟨rfl, h⟩)
  · exact gen (.inl ⟨rfl, by rw [V_bl_dec]; exact h⟩)
  · exact gen (.inl ⟨rfl, by rw [V_int_dec]; exact h⟩)
  · exact gen (.inl ⟨rfl, by rw [V_str_dec]; exact h⟩)
  · rcases h with h | h
    · exact gen (.inr h)
    · cases rx; cases ry; exact (op_sqB hu I).2 h
theorem op_uIn : OpR X (compareOp .In) (uIn X.K) := by
  intro pins s σ H x y v u Q I rx ry h
  cases x <;> cases y <;> first | exact op_in_str pins s σ H _ _ _ _ Q I rx ry ⟨_, _, rfl, rfl, h⟩ | exact op_in_seq pins s σ H _ _ _ _ Q I rx ry h
theorem op_uNotIn : OpR X (compareOp .NotIn) (uNotIn X.K) := by
  intro pins s σ H x y v u Q I rx ry h
  cases x <;> cases y <;> first | exact op_notin_str pins s σ H _ _ _ _ Q I rx ry ⟨_, _, rfl, rfl, h⟩ | exact op_notIn_seq pins s σ H _ _ _ _ Q I rx ry h
end

def uIx (K : PySem.W.Frag) : R2 := fun x y H Q => match x, y with
  | .ref p, .int i => ∃ xs v, (SqL K H p xs ∨ SqT K H p xs) ∧ atI xs i = some v ∧ Q v H
  | .str z, .int i => ∃ c, z.length ≤ sizeLine ∧ atI z.cps.toList i = some c ∧ Q (.str ⟨#[c]⟩) H
  | _, _ => False
def uLen (K : PySem.W.Frag) : List V → Hp → VK → Prop := fun vs H Q => match vs with
  | [.ref p] => ∃ xs, (SqL K H p xs ∨ SqT K H p xs) ∧ Q (.int xs.length) H
  | [.str z] => z.length ≤ sizeLine ∧ Q (.int z.length) H
  | _ => False
def uInt : List V → Hp → VK → Prop := fun vs H Q => match vs with
  | [.int i] => Q (.int i) H
  | [.bl b] => Q (.int (if b then 1 else 0)) H
  | _ => False
def uMax : List V → Hp → VK → Prop := fun vs H Q => match vs with
  | [.int i, .int j] => Q (.int (if j > i then j else i)) H
  | _ => False
def uMin : List V → Hp → VK → Prop := fun vs H Q => match vs with
  | [.int i, .int j] => Q (.int (if j < i then j else i)) H
  | _ => False
def uAbs : List V → Hp → VK → Prop := fun vs H Q => match vs with
  | [.int i] => Q (.int (if i < 0 then -i else i)) H
  | _ => False
def uList (K : PySem.W.Frag) : List V → Hp → VK → Prop := fun vs H Q => match vs with
  | [.ref p] => ∃ xs, (SqL K H p xs ∨ SqT K H p xs) ∧ ∀ l, H l = none → Q (.ref l) (upd H l (.lst xs))
  | _ => False
def uTuple (K : PySem.W.Frag) : List V → Hp → VK → Prop := fun vs H Q => match vs with
  | [.ref p] => ∃ xs, (SqL K H p xs ∧ ∀ l, H l = none → Q (.ref l) (upd H l (.tup xs))) ∨ (SqT K H p xs ∧ Q (.ref p) H)
  | _ => False
def uIsi (K : PySem.W.Frag) : List V → Hp → VK → Prop := fun vs H Q => match vs with
  | [x, c] => ∃ (t u : Value) (b : Bool), ClsV c u ∧ TyX K H x t ∧ PySem.W.kitOne K t u = some b ∧ Q (.bl b) H
  | _ => False
def tTru (K : PySem.W.Frag) (ta : TE) : TT := fun σ H Q => ta σ H fun x H' => ∃ k, TruV K x H' k ∧ Q k H'
def tCal (sp : Sp) (t : TA) : TE := fun σ H Q => t σ H fun vs H1 => sp vs H1 Q E0
section
variable {X : Cx}
theorem ix_uIx : IxR X (uIx X.K) := by
  intro ea eb pins s σ H x y v u Q I rx ry h hp
  cases x <;> cases y <;> first | exact h.elim | skip
  · obtain ⟨c, hz, ha, q⟩ := h
    exact ix_str ea eb pins s σ H _ _ _ _ Q I rx ry ⟨_, _, c, rfl, rfl, hz, ha, q⟩ hp
  · obtain ⟨xs, w, hl, ha, q⟩ := h
    rcases hl with hl | hl
    · exact ix_list ea eb pins s σ H _ _ _ _ Q I rx ry ⟨_, xs, _, w, rfl, rfl, hl, ha, q⟩ hp
    · exact ix_tup ea eb pins s σ H _ _ _ _ Q I rx ry ⟨_, xs, _, w, rfl, rfl, hl, ha, q⟩ hp
theorem call_uLen : CallR X (.builtin "len") (uLen X.K) := by
  intro pins s σ H vs us Q I r h
  rcases vs with _ | ⟨x, _ | ⟨y, t⟩⟩
  · exact h.elim
  · cases x <;> first | exact h.elim | skip
    · exact call_len pins s σ H _ _ Q I r ⟨_, _, rfl, ⟨h.1, rfl⟩, h.2⟩
    · obtain ⟨xs, hl, q⟩ := h
      refine call_len pins s σ H _ _ Q I r ⟨_, xs.length, rfl, ?_, q⟩
      rcases hl with hl | hl
      · exact .inl ⟨_, hl, rfl⟩
      · exact .inr ⟨_, hl, rfl⟩
  · cases x <;> exact h.elim
theorem call_uInt : CallR X (.type "int") uInt := by
  intro pins s σ H vs us Q I r h
  rcases vs with _ | ⟨x, _ | ⟨y, t⟩⟩
  · exact h.elim
  · cases x <;> first | exact h.elim | skip
    · exact call_int1 pins s σ H _ _ Q I r (.inr ⟨_, rfl, h⟩)
    · exact call_int1 pins s σ H _ _ Q I r (.inl ⟨_, rfl, h⟩)
  · cases x <;> exact h.elim
theorem call_uMin (hc : X.calm = true) : CallR X (.builtin "min") uMin := by
  intro pins s σ H vs us Q I r h
  rcases vs with _ | ⟨x, _ | ⟨y, _ | ⟨z, t⟩⟩⟩
  · exact h.elim
  · cases x <;> exact h.elim
  · cases x <;> cases y <;> first | exact h.elim | skip
    exact call_min2 hc pins s σ H _ _ Q I r ⟨_, _, rfl, h⟩
  · cases x <;> cases y <;> exact h.elim
theorem call_uList : CallR X (.type "list") (uList X.K) := by
  intro pins s σ H vs us Q I r h
  rcases vs with _ | ⟨x, _ | ⟨y, t⟩⟩
  · exact h.elim
  · cases x <;> first | exact h.elim | skip
    obtain ⟨xs, hl, q⟩ := h
    exact call_list_of pins s σ H _ _ Q I r ⟨_, xs, rfl, hl, q⟩
  · cases x <;> exact h.elim
theorem call_uTuple : CallR X (.type "tuple") (uTuple X.K) := by
  intro pins s σ H vs us Q I r h
  rcases vs with _ | ⟨x, _ | ⟨y, t⟩⟩
  · exact h.elim
  · cases x <;> first | exact h.elim | skip
    obtain ⟨xs, hl⟩ := h
    exact call_tuple_of pins s σ H _ _ Q I r ⟨_, xs, rfl, hl⟩
  · cases x <;> exact h.elim
theorem pt_u {a : Expr} {ta : TE} (ha : PE X a ta) (he : ∀ whole, isTrue a X.env whole = (do let v ← whole; standAt a.pos; holding [v] (truthy v)) := by intro _; rfl) : PT X a (tTru X.K ta) := pt_truth ha he
end

structure Dfn (P : Program) (w : World) (K : PySem.W.Frag) (mg : Str → Option Value) (base : Heap) (k : Nat) (x : Str) (ps : List Str) (sp : Sp) : Prop where
  ex : ∃ (f : Addr) (fd : FuncData), mg x = some (.ref f) ∧ PySem.W.keepIn K (.ref f) = true ∧ Binds K fd ps [] ∧ FnOk P w K mg base CX0 k f fd ps sp
theorem nil_sp (sp : Sp) (t : TA) : tCall sp [] E0 t = tCal sp t := by
  funext σ H Q
  simp only [tCall, tCal, List.append_nil]
section
variable {X : Cx} {k : Nat} {x : Str} {ps : List Str} {sp : Sp} {p pos : Pos} {e : Expr} {es : List Expr} {t : TA}
theorem z_call (D : Dfn X.prog X.w X.K X.mg X.base k x ps sp) (hr : Room k X.A) (hg : Gl X x) (ha : PA X (e :: es) t) (hdb : (x == ("__debug__" : Str)) = false := by decide)
    (he : starEach (e :: es) X.env = (false, eval e X.env) :: starEach es X.env := by rfl) (hpl : (backTo pos (starEach es X.env)).any (·.1) = false := by rfl) : PE X (.Call (.Name x p) (e :: es) [] pos) (tCal sp t) := by
  obtain ⟨f, fd, hm, hk, hb, F⟩ := D.ex
  rw [← nil_sp]
  exact pe_call F hr hg hm hk hb .nil pass0 ha hdb he hpl
end

def zNewL (xs : List V) (H : Hp) (Q : VK) : Prop := xs.length ≤ sizeLine ∧ ∀ p, H p = none → Q (.ref p) (upd H p (.lst xs))
def zNewT (xs : List V) (H : Hp) (Q : VK) : Prop := xs.length ≤ sizeLine ∧ ∀ p, H p = none → Q (.ref p) (upd H p (.tup xs))
section
variable {K : PySem.W.Frag} {σ : St} {H : Hp} {i : Nat} {v : V} {Q : VK} {QA : List V → Hp → Prop} {QB : Bool → Hp → Prop} {r : R2} {r1 : V → Hp → VK → Prop} {rl : List V → Hp → VK → Prop} {ta tb te : TE} {tr t : TA} {c u : TT} {sp : Sp} {xs : List V} {a b : Int} {x y : Str} {p q : Addr} {bb : Bool} {D : Ends} {t1 t2 : TS}
theorem z_var (h : σ[i]? = some (some v)) (k : Q v H) : tVar i σ H Q := ⟨v, h, k⟩
theorem z_c (k : Q v H) : tC v σ H Q := k
theorem z_op (k : ta σ H fun x H1 => tb σ H1 fun y H2 => r x y H2 Q) : tOp r ta tb σ H Q := k
theorem z_un (k : ta σ H fun x H1 => r1 x H1 Q) : tUn r1 ta σ H Q := k
theorem z_cb (k : t σ H fun vs H1 => rl vs H1 Q) : tCB rl t σ H Q := k
theorem z_cal (k : t σ H fun vs H1 => sp vs H1 Q E0) : tCal sp t σ H Q := k
theorem z_nil (k : QA [] H) : tNil σ H QA := k
theorem z_cons (k : ta σ H fun x H1 => tr σ H1 fun xs H2 => QA (x :: xs) H2) : tCons ta tr σ H QA := k
theorem z_lst (k : t σ H fun xs H1 => zNewL xs H1 Q) : tLst t σ H Q := k
theorem z_tup (k : t σ H fun xs H1 => zNewT xs H1 Q) : tTup t σ H Q := k
theorem z_newL (h : xs.length ≤ 100000) (k : ∀ p, H p = none → Q (.ref p) (upd H p (.lst xs))) : zNewL xs H Q := ⟨Nat.le_trans h (by decide), k⟩
theorem z_newT (h : xs.length ≤ 100000) (k : ∀ p, H p = none → Q (.ref p) (upd H p (.tup xs))) : zNewT xs H Q := ⟨Nat.le_trans h (by decide), k⟩
theorem z_test (k : te σ H fun x H' => ∃ k, x = .bl k ∧ QB k H') : tTest te σ H QB := k
theorem z_bl (k : QB bb H) : ∃ k, V.bl bb = .bl k ∧ QB k H := ⟨bb, rfl, k⟩
theorem z_tru (k : te σ H fun x H' => ∃ k, TruV K x H' k ∧ QB k H') : tTru K te σ H QB := k
theorem z_trub {P : Bool → Prop} (k : P bb) : ∃ k, TruV K (.bl bb) H k ∧ P k := ⟨bb, rfl, k⟩
theorem z_trui {P : Bool → Prop} (k : P (a != 0)) : ∃ k, TruV K (.int a) H k ∧ P k := ⟨_, rfl, k⟩
theorem z_and (k : c σ H fun b H1 => if b = true then u σ H1 QB else QB false H1) : tAnd c u σ H QB := k
theorem z_or (k : c σ H fun b H1 => if b = true then QB true H1 else u σ H1 QB) : tOr c u σ H QB := k
theorem z_not (k : c σ H fun b H1 => QB (!b) H1) : tNot c σ H QB := k
theorem z_andV (k : ta σ H fun x H1 => ∃ c, x = .bl c ∧ if c = true then tb σ H1 Q else Q (.bl false) H1) : tAndV ta tb σ H Q := k
theorem z_orV (k : ta σ H fun x H1 => ∃ c, x = .bl c ∧ if c = true then Q (.bl true) H1 else tb σ H1 Q) : tOrV ta tb σ H Q := k
theorem z_notV (k : ta σ H fun x H1 => ∃ c, x = .bl c ∧ Q (.bl (!c)) H1) : tNotV ta σ H Q := k
theorem z_if (k : c σ H fun b H1 => if b = true then ta σ H1 Q else tb σ H1 Q) : tIf c ta tb σ H Q := k
theorem z_bl1 {P : Bool → Prop} (k : P bb) : ∃ k, V.bl bb = .bl k ∧ P k := ⟨bb, rfl, k⟩
-- operators
theorem z_add (k : Q (.int (a + b)) H) : uAdd K (.int a) (.int b) H Q := k
theorem z_sub (k : Q (.int (a - b)) H) : uSub (.int a) (.int b) H Q := k
theorem z_mul (h : MulOk a b) (k : Q (.int (a * b)) H) : uMul (.int a) (.int b) H Q := ⟨h, k⟩
theorem z_div (h : CDivW a b) (k : Q (.int (a / b)) H) : uDiv (.int a) (.int b) H Q := ⟨h, k⟩
theorem z_mod (h : 0 < b) (k : Q (.int (a % b)) H) : uMod (.int a) (.int b) H Q := ⟨h, k⟩
theorem z_pow (h : CPow a b) (k : Q (.int (a ^ b.toNat)) H) : uPow (.int a) (.int b) H Q := ⟨h, k⟩
theorem z_neg (k : Q (.int (-a)) H) : uNeg (.int a) H Q := k
theorem z_lt (k : Q (.bl (decide (a < b))) H) : uLt K (.int a) (.int b) H Q := k
theorem z_ltS (k : Q (.bl (decide (x.cps.toList < y.cps.toList))) H) : uLt K (.str x) (.str y) H Q := k
theorem z_ltIS {i j : Int} {x y : Str} (h1 : SqT K H p [.int i, .str x]) (h2 : SqT K H q [.int j, .str y]) (k : Q (.bl (if i = j then decide (x.cps.toList < y.cps.toList) else decide (i < j))) H) : uLt K (.ref p) (.ref q) H Q := by
  refine .inr ⟨_, _, h1, h2, ?_, ?_⟩
  · intro n u v hu hv
    match n with
    | 0 => cases hu; cases hv; rfl
    | 1 => cases hu; cases hv; rfl
    | n + 2 => cases hu
  · have e : Ob.lexAt (fun n => decide (([V.int i, .str x])[n]? = ([V.int j, .str y])[n]?)) (ltV2 [.int i, .str x] [.int j, .str y]) (decide (([V.int i, .str x] : List V).length < ([V.int j, .str y] : List V).length)) 0 (min ([V.int i, .str x] : List V).length ([V.int j, .str y] : List V).length) = (if i = j then decide (x.cps.toList < y.cps.toList) else decide (i < j)) := by
      show Ob.lexAt _ _ false 0 2 = _
      rw [Ob.lexAt_succ, Ob.lexAt_succ, Ob.lexAt_zero]
      by_cases h : i = j
      · subst h
        rw [if_pos (by simp), if_pos rfl]
        by_cases h2 : x = y
        · subst h2
          rw [if_pos (by simp), decide_eq_false (List.lt_irrefl _)]
        · rw [if_neg (by simp [h2])]; rfl
      · rw [if_neg (by simp [h]), if_neg h]; rfl
    rw [e]; exact k
theorem z_le (k : Q (.bl (decide (a ≤ b))) H) : uLe (.int a) (.int b) H Q := k
theorem z_leS (k : Q (.bl (!decide (y.cps.toList < x.cps.toList))) H) : uLe (.str x) (.str y) H Q := k
theorem z_gt (k : Q (.bl (decide (b < a))) H) : uGt (.int a) (.int b) H Q := k
theorem z_gtS (k : Q (.bl (decide (y.cps.toList < x.cps.toList))) H) : uGt (.str x) (.str y) H Q := k
theorem z_ge (k : Q (.bl (decide (b ≤ a))) H) : uGe (.int a) (.int b) H Q := k
theorem z_geS (k : Q (.bl (!decide (x.cps.toList < y.cps.toList))) H) : uGe (.str x) (.str y) H Q := k
theorem z_eq (k : Q (.bl (decide (a = b))) H) : uEq K (.int a) (.int b) H Q := k
theorem z_eqS (k : Q (.bl (decide (x = y))) H) : uEq K (.str x) (.str y) H Q := k
theorem z_eqB {a b : Bool} (k : Q (.bl (decide (a = b))) H) : uEq K (.bl a) (.bl b) H Q := k
theorem z_eqN (k : Q (.bl true) H) : uEq K .non .non H Q := k
theorem z_eqIS (k : Q (.bl false) H) : uEq K (.int a) (.str x) H Q := .inl ⟨rfl, by rw [decide_eq_false (by intro z; cases z)]; exact k⟩
theorem z_eqSI (k : Q (.bl false) H) : uEq K (.str x) (.int a) H Q := .inl ⟨rfl, by rw [decide_eq_false (by intro z; cases z)]; exact k⟩
theorem z_ne (k : Q (.bl (!decide (a = b))) H) : uNe K (.int a) (.int b) H Q := k
theorem z_neS (k : Q (.bl (!decide (x = y))) H) : uNe K (.str x) (.str y) H Q := k
theorem z_neB {a b : Bool} (k : Q (.bl (!decide (a = b))) H) : uNe K (.bl a) (.bl b) H Q := k
theorem z_neN (k : Q (.bl false) H) : uNe K .non .non H Q := k
theorem z_neIS (k : Q (.bl true) H) : uNe K (.int a) (.str x) H Q := .inl ⟨rfl, by rw [decide_eq_false (by intro z; cases z)]; exact k⟩
theorem z_neSI (k : Q (.bl true) H) : uNe K (.str x) (.int a) H Q := .inl ⟨rfl, by rw [decide_eq_false (by intro z; cases z)]; exact k⟩
theorem allB_true {xs ys : List V} {e : Nat → Bool} (hl : xs.length = ys.length) (h : ∀ i, i < xs.length → e i = true) : allB xs ys e = true := by
  unfold allB
  rw [← hl, Nat.min_self, beq_self_eq_true, Bool.and_true, List.all_eq_true]
  exact fun i hi => h i (List.mem_range.mp hi)
theorem EqB.self : ∀ {v : V}, (flatV v = true ∨ ∃ a, v = .ref a) → EqB K H 0 v v true := by
  intro v h
  rcases h with h | ⟨a, rfl⟩
  · refine .inl ⟨h, h, ?_⟩
    cases v <;> first | (cases h; done) | (simp [eqV]; done)
  · exact .inr ⟨a, rfl, rfl, rfl⟩
theorem EqB.up {v w : V} {b : Bool} : ∀ {n m : Nat}, n ≤ m → EqB K H n v w b → EqB K H m v w b := by
  intro n m h e
  induction h with
  | refl => exact e
  | step _ ih => exact .inl ih
theorem EqB.sq {n : Nat} {a c : Addr} {xs ys : List V} (hs : sameSq K H a c xs ys) (hl : xs.length = ys.length) (he : ∀ (i : Nat) (x y : V), xs[i]? = some x → ys[i]? = some y → EqB K H n x y true) : EqB K H (n + 1) (.ref a) (.ref c) true :=
  .inr ⟨a, c, xs, ys, fun _ => true, rfl, rfl, hs, he, (allB_true hl fun _ _ => rfl).symm⟩
theorem EqB.str {x y : Str} : EqB K H 0 (.str x) (.str y) (decide (x = y)) := .inl ⟨rfl, rfl, by simp only [eqV]; rw [Bool.eq_iff_iff, decide_eq_true_iff, beq_iff_eq]⟩
theorem EqB.int {x y : Int} : EqB K H 0 (.int x) (.int y) (decide (x = y)) := .inl ⟨rfl, rfl, by simp only [eqV]; rw [Bool.eq_iff_iff, decide_eq_true_iff, beq_iff_eq]⟩
theorem EqB.of {n : Nat} {a c : Addr} {xs ys : List V} {e : Nat → Bool} {b : Bool} (hs : sameSq K H a c xs ys) (he : ∀ (i : Nat) (x y : V), xs[i]? = some x → ys[i]? = some y → EqB K H n x y (e i)) (hb : b = allB xs ys e) : EqB K H (n + 1) (.ref a) (.ref c) b := .inr ⟨a, c, xs, ys, e, rfl, rfl, hs, he, hb⟩
theorem z_is (k : Q (.bl (decide (v = .non))) H) : uIs v .non H Q := by cases v <;> exact k
theorem z_isNot (k : Q (.bl (!decide (v = .non))) H) : uIsNot v .non H Q := by cases v <;> exact k
theorem z_isB {a b : Bool} (k : Q (.bl (decide (a = b))) H) : uIs (.bl a) (.bl b) H Q := k
theorem z_isNotB {a b : Bool} (k : Q (.bl (!decide (a = b))) H) : uIsNot (.bl a) (.bl b) H Q := k
theorem z_in (h : SqL K H p xs ∨ SqT K H p xs) (hx : flatV v = true) (ha : xs.all flatV = true) (k : Q (.bl (inV v xs)) H) : uIn K v (.ref p) H Q := by
  cases v <;> exact ⟨p, xs, rfl, h, hx, ha, k⟩
theorem z_notIn (h : SqL K H p xs ∨ SqT K H p xs) (hx : flatV v = true) (ha : xs.all flatV = true) (k : Q (.bl (!inV v xs)) H) : uNotIn K v (.ref p) H Q := by
  cases v <;> exact ⟨p, xs, rfl, h, hx, ha, k⟩
theorem z_isbb {a : Bool} (k : Q (.bl true) H) : uIsi K [.bl a, .ty "bool"] H Q := ⟨_, _, true, .ty _, .base (.bl a), rfl, k⟩
theorem z_isbi {a : Bool} (k : Q (.bl true) H) : uIsi K [.bl a, .ty "int"] H Q := ⟨_, _, true, .ty _, .base (.bl a), rfl, k⟩
theorem z_isll (h : H p = some (.lst xs)) (k : Q (.bl true) H) : uIsi K [.ref p, .ty "list"] H Q := ⟨_, _, true, .ty _, .base (.lst h), rfl, k⟩
theorem z_istt (h : H p = some (.tup xs)) (k : Q (.bl true) H) : uIsi K [.ref p, .ty "tuple"] H Q := ⟨_, _, true, .ty _, .base (.tup h), rfl, k⟩
theorem z_chain {r r' : R2} {tc : TE} (k : ta σ H fun x H1 => tb σ H1 fun y H2 => r x y H2 fun z H3 => ∃ k, z = .bl k ∧ if k = true then tc σ H3 fun w H4 => r' y w H4 Q else Q (.bl false) H3) : tChain r r' ta tb tc σ H Q := k
-- items, built-ins
theorem z_ix (h : SqL K H p xs ∨ SqT K H p xs) (e : atI xs a = some v) (k : Q v H) : uIx K (.ref p) (.int a) H Q := ⟨xs, v, h, e, k⟩
theorem z_len (h : SqL K H p xs ∨ SqT K H p xs) (k : Q (.int xs.length) H) : uLen K [.ref p] H Q := ⟨xs, h, k⟩
theorem z_int (k : Q (.int a) H) : uInt [.int a] H Q := k
theorem z_max (k : Q (.int (if b > a then b else a)) H) : uMax [.int a, .int b] H Q := k
theorem z_min (k : Q (.int (if b < a then b else a)) H) : uMin [.int a, .int b] H Q := k
theorem z_abs (k : Q (.int (if a < 0 then -a else a)) H) : uAbs [.int a] H Q := k
theorem z_list (h : SqL K H p xs ∨ SqT K H p xs) (k : ∀ l, H l = none → Q (.ref l) (upd H l (.lst xs))) : uList K [.ref p] H Q := ⟨xs, h, k⟩
theorem z_tupleL (h : SqL K H p xs) (k : ∀ l, H l = none → Q (.ref l) (upd H l (.tup xs))) : uTuple K [.ref p] H Q := ⟨xs, .inl ⟨h, k⟩⟩
theorem z_tupleT (h : SqT K H p xs) (k : Q (.ref p) H) : uTuple K [.ref p] H Q := ⟨xs, .inr ⟨h, k⟩⟩
theorem z_isii (k : Q (.bl true) H) : uIsi K [.int a, .ty "int"] H Q := ⟨_, _, true, .ty _, .base (.int a), rfl, k⟩
theorem z_isib (k : Q (.bl false) H) : uIsi K [.int a, .ty "bool"] H Q := ⟨_, _, false, .ty _, .base (.int a), rfl, k⟩
-- statements
theorem z_seq (k : t1 { D with nx := t2 D } σ H) : tSeq t1 t2 D σ H := k
theorem z_next (k : D.nx σ H) : tNext D σ H := k
theorem z_brk (k : D.bk σ H) : tBreak D σ H := k
theorem z_cont (k : D.ct σ H) : tCont D σ H := k
theorem z_ret (k : te σ H D.rt) : tRet te D σ H := k
theorem z_retN (k : D.rt .non H) : tRetN D σ H := k
theorem z_asg (k : te σ H fun x H1 => D.nx (σ.set i (some x)) H1) : tAsg te (gName i) D σ H := k
theorem z_drop (k : te σ H fun _ H1 => D.nx σ H1) : tDrop te D σ H := k
theorem z_ifS (k : c σ H fun b H1 => if b = true then t1 D σ H1 else t2 D σ H1) : tIfS c t1 t2 D σ H := k
theorem z_iteT {A B : Prop} (k : A) : if true = true then A else B := by rw [if_pos rfl]; exact k
theorem z_iteF {A B : Prop} (k : B) : if false = true then A else B := by rw [if_neg Bool.false_ne_true]; exact k
theorem z_iteT' {A B : Prop} (e : bb = true) (k : A) : if bb = true then A else B := by rw [if_pos e]; exact k
theorem z_iteF' {A B : Prop} (e : bb = false) (k : B) : if bb = true then A else B := by rw [if_neg (by rw [e]; exact Bool.false_ne_true)]; exact k
theorem z_itD {A B P : Prop} [Decidable P] (h1 : P → A) (h2 : ¬ P → B) : if decide P = true then A else B := by
  by_cases h : P
  · rw [if_pos (decide_eq_true h)]; exact h1 h
  · rw [if_neg (by rw [decide_eq_false h]; exact Bool.false_ne_true)]; exact h2 h
-- loops
def zRng (g : TG) (tb : TS) (D : Ends) (σ : St) (lo : Int) (n : Nat) (H1 : Hp) : Prop := ∃ W : Nat → Nat → St → Hp → Prop, (∃ m, W 0 m σ H1) ∧ ∀ i m σ H, W i m σ H →
  ((Itr lo n).stop i H ∧ D.nx σ H) ∨ ((Itr lo n).go i H ∧ ∃ N : St → Hp → Prop, (∀ σ' H', N σ' H' → ∃ m', m' < m ∧ W (i + 1) m' σ' H') ∧ ∀ x H', (Itr lo n).yld i H x H' → g x σ H' fun σ2 H2 => tb { D with nx := N, ct := N, bk := D.nx } σ2 H2)
def zRng1 (g : TG) (tb : TS) (D : Ends) (σ : St) (vs : List V) (H1 : Hp) : Prop := ∃ j : Int, vs = [.int j] ∧ -(2 ^ 62) ≤ j ∧ j < 2 ^ 62 ∧ zRng g tb D σ 0 j.toNat H1
def zRng2 (g : TG) (tb : TS) (D : Ends) (σ : St) (vs : List V) (H1 : Hp) : Prop := ∃ i j : Int, vs = [.int i, .int j] ∧ (-(2 ^ 62) ≤ i ∧ i < 2 ^ 62 ∧ -(2 ^ 62) ≤ j ∧ j < 2 ^ 62) ∧ zRng g tb D σ i (j - i).toNat H1
def iSq (K : PySem.W.Frag) (tl : TE) : TI := fun σ H R => tl σ H fun x H1 => ∃ a, x = .ref a ∧ (((∃ xs, SqL K H1 a xs) ∧ R (Itl K a) H1) ∨ ((∃ xs, SqT K H1 a xs) ∧ R (Itt K a) H1))
variable {g : TG} {ti : TS}
theorem z_for1 (k : t σ H fun vs H1 => zRng1 g ti D σ vs H1) : tFor (iRng1 t) g ti D σ H := k
theorem z_for2 (k : t σ H fun vs H1 => zRng2 g ti D σ vs H1) : tFor (iRng2 t) g ti D σ H := k
theorem mul1 (h : -1000000000000000000 < a ∧ a < 1000000000000000000) : MulOk a b := .inl (.inl (by omega))
theorem mul2 (h : -1000000000000000000 < b ∧ b < 1000000000000000000) : MulOk a b := .inl (.inr (by omega))
theorem div1 (h : 0 < b ∧ b < 1000000000000000000) : CDivW a b := wide_div h.1 (b := 64) (by omega) (by decide) (by decide)
end
theorem lk_ne {H : Hp} {a b : Addr} {o u : HO} (h : a ≠ b) (e : H a = some u) : upd H b o a = some u := by rw [upd_ne h]; exact e
theorem ne_n {H : Hp} {a b : Addr} {o : HO} (h' : H b = none) (h : H a = some o) : a ≠ b := ne_of_none h h'
theorem sqL_new {K : PySem.W.Frag} {H : Hp} {a b : Addr} {o : HO} {xs : List V} (h : H b = none) (e : SqL K H a xs) : SqL K (upd H b o) a xs := by
  rcases e with (e | ⟨u, e⟩) | e
  · exact .inl (.inl (lk_ne (ne_of_none e h) e))
  · exact .inl (.inr ⟨u, lk_ne (ne_of_none e h) e⟩)
  · exact .inr e
theorem sqT_new {K : PySem.W.Frag} {H : Hp} {a b : Addr} {o : HO} {xs : List V} (h : H b = none) (e : SqT K H a xs) : SqT K (upd H b o) a xs := by
  rcases e with (e | ⟨u, e⟩) | e
  · exact .inl (.inl (lk_ne (ne_of_none e h) e))
  · exact .inl (.inr ⟨u, lk_ne (ne_of_none e h) e⟩)
  · exact .inr e
theorem sqL_ne {K : PySem.W.Frag} {H : Hp} {a b : Addr} {o : HO} {xs : List V} (h : a ≠ b) (e : SqL K H a xs) : SqL K (upd H b o) a xs := by
  rcases e with (e | ⟨u, e⟩) | e
  · exact .inl (.inl (lk_ne h e))
  · exact .inl (.inr ⟨u, lk_ne h e⟩)
  · exact .inr e
theorem sqT_ne {K : PySem.W.Frag} {H : Hp} {a b : Addr} {o : HO} {xs : List V} (h : a ≠ b) (e : SqT K H a xs) : SqT K (upd H b o) a xs := by
  rcases e with (e | ⟨u, e⟩) | e
  · exact .inl (.inl (lk_ne h e))
  · exact .inl (.inr ⟨u, lk_ne h e⟩)
  · exact .inr e
def NotSt (o : HO) : Prop := ∀ (L : Addr) (k a : Int), o ≠ .lst [.ref L, .int k, .int a]
theorem NotSt.ints {ns : List Int} : NotSt (.lst (ns.map V.int)) := fun L k a z => by
  cases ns with
  | nil => cases z
  | cons x r => injection z with z; injection z with z1 _; cases z1
theorem NotSt.refs {ps : List Addr} : NotSt (.lst (ps.map V.ref)) := fun L k a z => by
  cases ps with
  | nil => cases z
  | cons x r => cases r with
    | nil => cases z
    | cons y t => injection z with z; injection z with _ z; injection z with z _; cases z
theorem NotSt.strs {xs : List Str} : NotSt (.lst (xs.map V.str)) := fun L k a z => by
  cases xs with
  | nil => cases z
  | cons x r => injection z with z; injection z with z1 _; cases z1
def ExD (H H' : Hp) : Prop := ∀ a o, NotSt o → H a = some o → H' a = some o
theorem ExD.lk {a : Addr} {H H' : Hp} {o : HO} (x : ExD H H') (e : H a = some o) (h : NotSt o) : H' a = some o := x a o h e
theorem ExD.refl (H : Hp) : ExD H H := fun _ _ _ e => e
theorem ExD.trans {H H1 H2 : Hp} (x : ExD H H1) (y : ExD H1 H2) : ExD H H2 := fun a o h e => y a o h (x a o h e)
theorem ExD.new {p : Addr} {H H1 : Hp} {o : HO} (h : H p = none) (x : ExD H H1) : ExD H (upd H1 p o) := fun a u ha e => lk_ne (ne_of_none e h) (x a u ha e)
theorem ExD.of {H H' : Hp} (x : Same H H') : ExD H H' := fun a o _ e => x a o e
theorem ExD.st {st L : Addr} {k a : Int} {H H1 : Hp} {o : HO} (e : H st = some (.lst [.ref L, .int k, .int a])) (x : ExD H H1) : ExD H (upd H1 st o) := fun b u hb f => by
  refine lk_ne (fun z => ?_) (x b u hb f)
  subst z; rw [e] at f; exact hb L k a (Option.some.inj f).symm
theorem Same.lk {a : Addr} {H H' : Hp} {o : HO} (x : Same H H') (e : H a = some o) : H' a = some o := x a o e
theorem lk_new {H : Hp} {a b : Addr} {o u : HO} (h : H b = none) (e : H a = some u) : upd H b o a = some u := lk_ne (ne_of_none e h) e
theorem lk_df {H : Hp} {a b : Addr} {o u w : HO} (e : H a = some u) (f : H b = some w) (d : u ≠ w) : upd H b o a = some u := lk_ne (fun z => by subst z; rw [e] at f; exact d (Option.some.inj f)) e

section
variable {K : PySem.W.Frag} {σ : St} {H : Hp} {Q : VK} {te ta tb : TE} {t u : TS} {D : Ends} {p : Addr} {xs : List V} {a : Int} {v : V} {j : Nat}
theorem z_cut (M : St → Hp → Prop) (k : t { D with nx := M } σ H) (h : ∀ σ' H', M σ' H' → u D σ' H') : tCut t u D σ H := ⟨M, k, h⟩
theorem z_asgS (k : te σ H fun x H1 => ta σ H1 fun o H2 => tb σ H2 fun i H3 => rSetL o i x H3 fun H4 => D.nx σ H4) : tAsg te (gSub ta tb rSetL) D σ H := k
theorem z_setL {Q : Hp → Prop} (h : H p = some (.lst xs)) (e : ixN xs.length a = some j) (k : Q (upd H p (.lst (xs.set j v)))) : rSetL (.ref p) (.int a) v H Q := ⟨p, xs, a, j, rfl, rfl, h, e, k⟩
theorem tyL (h : H p = some (.lst xs)) : tyV K "list" (.ref p) H := Or.inl ⟨rfl, _, Or.inl (Or.inl h)⟩
theorem z_bm {T : String} {r : V → List V → Hp → VK → Prop} {to : TE} {t : TA} (k : to σ H fun x H1 => tyV K T x H1 ∧ t σ H1 fun xs H2 => r x xs H2 Q) : tBM K T r to t σ H Q := k
theorem upd_self {H : Hp} {a : Addr} {o : HO} (h : H a = some o) : upd H a o = H := by
  funext b; unfold upd; split
  · rename_i e; subst e; exact h.symm
  · rfl
theorem ix_at {α : Type} {xs : List α} {i : Int} (h0 : 0 ≤ i) (h1 : i < xs.length) : ixN xs.length i = some i.toNat := by
  unfold ixN; rw [if_pos h0, if_pos h1]
theorem at_int {ns : List Int} {i : Int} (h0 : 0 ≤ i) (h1 : i < ns.length) : atI (ns.map V.int) i = some (.int (ns.getD i.toNat 0)) := by
  unfold atI
  rw [ix_at h0 (by simpa using h1)]
  have : i.toNat < ns.length := by omega
  simp [List.getD, this]
end
def Wd (T : TS) (N : List Str) (n : Nat) (sp : Sp) : Prop := ∀ (vs : List V) (H : Hp) (Q : VK) (E : XK), sp vs H Q E → vs.length = n ∧ T { nx := fun _ H' => Q .non H', rt := Q } (start N vs) H

def zLcR (g : TG) (tt : TT) (te : TE) (vs : List Nat) (σ : St) (lo : Int) (n : Nat) (H1 : Hp) (Q : VK) : Prop := ∀ D, H1 D = none → ∃ W : Nat → Nat → Hp → Prop, (∃ m, W 0 m (upd H1 D (.lst []))) ∧ ∀ i m H, W i m H →
  ((Itr lo n).stop i H ∧ Q (.ref D) H) ∨ ((Itr lo n).go i H ∧ ∃ Nx : Hp → Prop, (∀ H', Nx H' → ∃ m', m' < m ∧ W (i + 1) m' H') ∧ ∀ x H', (Itr lo n).yld i H x H' → g x (wipe σ vs) H' fun σ2 H2 => wipe σ2 vs = wipe σ vs ∧ tt σ2 H2 fun b H3 =>
    if b = true then te σ2 H3 fun y H4 => ∃ acc, H4 D = some (.lst acc) ∧ acc.length < sizeLine ∧ Nx (upd H4 D (.lst (acc ++ [y]))) else Nx H3)
def zLcR1 (g : TG) (tt : TT) (te : TE) (vs : List Nat) (σ : St) (as : List V) (H1 : Hp) (Q : VK) : Prop := ∃ j : Int, as = [.int j] ∧ -(2 ^ 62) ≤ j ∧ j < 2 ^ 62 ∧ zLcR g tt te vs σ 0 j.toNat H1 Q
def zLcL (K : PySem.W.Frag) (g : TG) (tt : TT) (te : TE) (vs : List Nat) (σ : St) (a : Addr) (H1 : Hp) (Q : VK) : Prop := ∀ D, H1 D = none → ∃ W : Nat → Nat → Hp → Prop, (∃ m, W 0 m (upd H1 D (.lst []))) ∧ ∀ i m H, W i m H →
  ((Itl K a).stop i H ∧ Q (.ref D) H) ∨ ((Itl K a).go i H ∧ ∃ Nx : Hp → Prop, (∀ H', Nx H' → ∃ m', m' < m ∧ W (i + 1) m' H') ∧ ∀ x H', (Itl K a).yld i H x H' → g x (wipe σ vs) H' fun σ2 H2 => wipe σ2 vs = wipe σ vs ∧ tt σ2 H2 fun b H3 =>
    if b = true then te σ2 H3 fun y H4 => ∃ acc, H4 D = some (.lst acc) ∧ acc.length < sizeLine ∧ Nx (upd H4 D (.lst (acc ++ [y]))) else Nx H3)
def zLcT (K : PySem.W.Frag) (g : TG) (tt : TT) (te : TE) (vs : List Nat) (σ : St) (a : Addr) (H1 : Hp) (Q : VK) : Prop := ∀ D, H1 D = none → ∃ W : Nat → Nat → Hp → Prop, (∃ m, W 0 m (upd H1 D (.lst []))) ∧ ∀ i m H, W i m H →
  ((Itt K a).stop i H ∧ Q (.ref D) H) ∨ ((Itt K a).go i H ∧ ∃ Nx : Hp → Prop, (∀ H', Nx H' → ∃ m', m' < m ∧ W (i + 1) m' H') ∧ ∀ x H', (Itt K a).yld i H x H' → g x (wipe σ vs) H' fun σ2 H2 => wipe σ2 vs = wipe σ vs ∧ tt σ2 H2 fun b H3 =>
    if b = true then te σ2 H3 fun y H4 => ∃ acc, H4 D = some (.lst acc) ∧ acc.length < sizeLine ∧ Nx (upd H4 D (.lst (acc ++ [y]))) else Nx H3)
def zLcS (K : PySem.W.Frag) (g : TG) (tt : TT) (te : TE) (vs : List Nat) (σ : St) (x : V) (H1 : Hp) (Q : VK) : Prop := ∃ a, x = .ref a ∧ (((∃ xs, SqL K H1 a xs) ∧ zLcL K g tt te vs σ a H1 Q) ∨ ((∃ xs, SqT K H1 a xs) ∧ zLcT K g tt te vs σ a H1 Q))
def zForS (K : PySem.W.Frag) (g : TG) (tb : TS) (D : Ends) (σ : St) (x : V) (H1 : Hp) : Prop := ∃ a, x = .ref a ∧ (((∃ xs, SqL K H1 a xs) ∧ ∃ W : Nat → Nat → St → Hp → Prop, (∃ m, W 0 m σ H1) ∧ ∀ i m σ H, W i m σ H →
  ((Itl K a).stop i H ∧ D.nx σ H) ∨ ((Itl K a).go i H ∧ ∃ N : St → Hp → Prop, (∀ σ' H', N σ' H' → ∃ m', m' < m ∧ W (i + 1) m' σ' H') ∧ ∀ x H', (Itl K a).yld i H x H' → g x σ H' fun σ2 H2 => tb { D with nx := N, ct := N, bk := D.nx } σ2 H2)) ∨
  ((∃ xs, SqT K H1 a xs) ∧ ∃ W : Nat → Nat → St → Hp → Prop, (∃ m, W 0 m σ H1) ∧ ∀ i m σ H, W i m σ H →
  ((Itt K a).stop i H ∧ D.nx σ H) ∨ ((Itt K a).go i H ∧ ∃ N : St → Hp → Prop, (∀ σ' H', N σ' H' → ∃ m', m' < m ∧ W (i + 1) m' σ' H') ∧ ∀ x H', (Itt K a).yld i H x H' → g x σ H' fun σ2 H2 => tb { D with nx := N, ct := N, bk := D.nx } σ2 H2)))

section
open PyProof.Rows
theorem pi_sq {X : Cx} {tg l : Expr} {tl : TE} (hl : PE X l tl) : PI X tg l (iSq X.K tl) := by
  refine ⟨fun pins s σ H R I h => ?_⟩
  refine thn (hl.run pins s σ H _ I h) fun v s1 ⟨x, H1, I1, r1, q1⟩ => ?_
  obtain ⟨a, e, q1⟩ := q1
  subst e
  cases r1
  rcases q1 with ⟨⟨xs, hq⟩, q⟩ | ⟨⟨xs, hq⟩, q⟩
  · obtain ⟨its, rv, p, hz⟩ := I1.list hq
    refine wpAny_pyIter_list p.isList ?_
    refine ⟨s1.heap.objs.size, [s1.heap.objs.size], _, _, H1, rfl, I1.kept (t' := s1.toks) fun b o e => Heap.get?_push_of_some _ e, turn_list a _, ⟨_, Heap.get?_push_size _ rfl, rfl, rfl⟩, fun b hb => ?_, q⟩
    have e : b = s1.heap.objs.size := by simpa using hb
    subst e
    exact I1.fpOk (Nat.le_refl _) (I1.hok.fresh (Nat.le_refl _))
  · obtain ⟨its, rv, p, hz⟩ := I1.tuple hq
    refine wpAny_pyIter_tuple (show s1.heap.IsTuple a its.toArray from p) ?_
    refine ⟨s1.heap.objs.size, [s1.heap.objs.size], _, _, H1, rfl, I1.kept (t' := s1.toks) fun b o e => Heap.get?_push_of_some _ e, turn_tuple a _, ⟨_, Heap.get?_push_size _ rfl, rfl, rfl⟩, fun b hb => ?_, q⟩
    have e : b = s1.heap.objs.size := by simpa using hb
    subst e
    exact I1.fpOk (Nat.le_refl _) (I1.hok.fresh (Nat.le_refl _))
end
section
variable {K : PySem.W.Frag} {σ : L2.St} {H : Hp} {Q : VK} {D : Ends} {tt : TT} {te tl : TE} {ta : TA} {vs : List Nat} {g : TG} {tb : TS} {a : Addr} {xs : List V}
theorem z_forSq (k : tl σ H fun x H1 => zForS K g tb D σ x H1) : tFor (iSq K tl) g tb D σ H := k
theorem z_lcSq (k : tl σ H fun x H1 => zLcS K g tt te vs σ x H1 Q) : tLc (iSq K tl) g tt te vs σ H Q := k
theorem z_lc1 (k : ta σ H fun as H1 => zLcR1 g tt te vs σ as H1 Q) : tLc (iRng1 ta) g tt te vs σ H Q := k
theorem z_yes {QB : Bool → Hp → Prop} (k : QB true H) : tYes σ H QB := k
theorem z_gName {v : V} {i : Nat} {P : L2.St → Hp → Prop} (k : P (σ.set i (some v)) H) : gName i v σ H P := k
end
def zZip (K : PySem.W.Frag) (g : TG) (tb : TS) (D : Ends) (σ : L2.St) (vs : List V) (H1 : Hp) : Prop := ∃ a b xs ys, vs = [.ref a, .ref b] ∧ ((SqL K H1 a xs ∧ SqL K H1 b ys ∧ ∃ W : Nat → Nat → L2.St → Hp → Prop, (∃ m, W 0 m σ H1) ∧ ∀ i m σ H, W i m σ H →
  ((Itz K a b).stop i H ∧ D.nx σ H) ∨ ((Itz K a b).go i H ∧ ∃ N : L2.St → Hp → Prop, (∀ σ' H', N σ' H' → ∃ m', m' < m ∧ W (i + 1) m' σ' H') ∧ ∀ x H', (Itz K a b).yld i H x H' → g x σ H' fun σ2 H2 => tb { D with nx := N, ct := N, bk := D.nx } σ2 H2)) ∨
  (SqT K H1 a xs ∧ SqT K H1 b ys ∧ ∃ W : Nat → Nat → L2.St → Hp → Prop, (∃ m, W 0 m σ H1) ∧ ∀ i m σ H, W i m σ H →
  ((RZ.ItzT K a b).stop i H ∧ D.nx σ H) ∨ ((RZ.ItzT K a b).go i H ∧ ∃ N : L2.St → Hp → Prop, (∀ σ' H', N σ' H' → ∃ m', m' < m ∧ W (i + 1) m' σ' H') ∧ ∀ x H', (RZ.ItzT K a b).yld i H x H' → g x σ H' fun σ2 H2 => tb { D with nx := N, ct := N, bk := D.nx } σ2 H2)))
theorem Same.sqT {K : PySem.W.Frag} {H H' : Hp} {a : Addr} {xs : List V} (e : Same H H') (h : SqT K H a xs) : SqT K H' a xs := by
  rcases h with (h | ⟨o, h⟩) | h
  · exact .inl (.inl (e _ _ h))
  · exact .inl (.inr ⟨o, e _ _ h⟩)
  · exact .inr h
theorem Same.new {H H' : Hp} {p : Addr} {o : HO} (h : H' p = none) (e : Same H H') : Same H (upd H' p o) := fun b u q => lk_ne (ne_of_none (e b u q) h) (e b u q)
section
variable {K : PySem.W.Frag} {σ : L2.St} {H : Hp} {D : Ends} {ta : TA} {g : TG} {tb : TS} {a b : Addr} {xs ys : List V}
theorem z_forZ (k : ta σ H fun vs H1 => zZip K g tb D σ vs H1) : tFor (RZ.iZipA K ta) g tb D σ H := k
end
def zEnum (K : PySem.W.Frag) (g : TG) (tb : TS) (D : Ends) (σ : L2.St) (vs : List V) (H1 : Hp) : Prop := ∃ a xs, vs = [.ref a] ∧ SqL K H1 a xs ∧ ∃ W : Nat → Nat → L2.St → Hp → Prop, (∃ m, W 0 m σ H1) ∧ ∀ i m σ H, W i m σ H →
  ((Ite K a).stop i H ∧ D.nx σ H) ∨ ((Ite K a).go i H ∧ ∃ N : L2.St → Hp → Prop, (∀ σ' H', N σ' H' → ∃ m', m' < m ∧ W (i + 1) m' σ' H') ∧ ∀ x H', (Ite K a).yld i H x H' → g x σ H' fun σ2 H2 => tb { D with nx := N, ct := N, bk := D.nx } σ2 H2)
def zLcE (K : PySem.W.Frag) (g : TG) (tt : TT) (te : TE) (vs : List Nat) (σ : L2.St) (as : List V) (H1 : Hp) (Q : VK) : Prop := ∃ a xs, as = [.ref a] ∧ SqL K H1 a xs ∧ ∀ D, H1 D = none → ∃ W : Nat → Nat → Hp → Prop, (∃ m, W 0 m (upd H1 D (.lst []))) ∧ ∀ i m H, W i m H →
  ((Ite K a).stop i H ∧ Q (.ref D) H) ∨ ((Ite K a).go i H ∧ ∃ Nx : Hp → Prop, (∀ H', Nx H' → ∃ m', m' < m ∧ W (i + 1) m' H') ∧ ∀ x H', (Ite K a).yld i H x H' → g x (wipe σ vs) H' fun σ2 H2 => wipe σ2 vs = wipe σ vs ∧ tt σ2 H2 fun b H3 =>
    if b = true then te σ2 H3 fun y H4 => ∃ acc, H4 D = some (.lst acc) ∧ acc.length < sizeLine ∧ Nx (upd H4 D (.lst (acc ++ [y]))) else Nx H3)
section
variable {K : PySem.W.Frag} {σ : L2.St} {H : Hp} {D : Ends} {ta : TA} {g : TG} {tb : TS} {a : Addr} {xs : List V} {tt : TT} {te : TE} {vs : List Nat} {Q : VK}
theorem z_forE (k : ta σ H fun vs H1 => zEnum K g tb D σ vs H1) : tFor (iEnum K ta) g tb D σ H := k
theorem z_lcE (k : ta σ H fun as H1 => zLcE K g tt te vs σ as H1 Q) : tLc (iEnum K ta) g tt te vs σ H Q := k
end
def zFld (K : PySem.W.Frag) (f : Str) (x : V) (H : Hp) (Q : VK) : Prop := ∃ a C dx fs v, x = .ref a ∧ H a = some (.ins C dx fs) ∧ Cls K C ∧ NoAttr K C f ∧ fs.lookup f = some v ∧ Q v H
def zSet (K : PySem.W.Frag) (f : Str) (y x : V) (H : Hp) (N : Hp → Prop) : Prop := ∃ a C dx fs, x = .ref a ∧ H a = some (.ins C dx fs) ∧ Cls K C ∧ NoAttr K C f ∧ fs.length < 1000 ∧ N (upd H a (.ins C dx (putF f y fs)))
theorem z_fldt {K : PySem.W.Frag} {σ : L2.St} {H : Hp} {ta : TE} {f : Str} {Q : VK} (k : ta σ H fun x H1 => zFld K f x H1 Q) : tFld K ta f σ H Q := k
theorem z_sett {K : PySem.W.Frag} {σ : L2.St} {H : Hp} {ta tv : TE} {f : Str} {D : Ends} (k : tv σ H fun y H1 => ta σ H1 fun x H2 => zSet K f y x H2 fun H3 => D.nx σ H3) : sFld K ta tv f D σ H := k
def uSl (K : PySem.W.Frag) : V → Option Int → Option Int → Hp → VK → Prop := fun x lo hi H Q => match x with
  | .ref a => rSlL K (.ref a) lo hi H Q ∨ rSlA K (.ref a) lo hi H Q
  | .str z => z.length ≤ sizeLine ∧ Q (.str (cutS z lo hi)) H
  | _ => False
theorem sl_uSl {X : Cx} : SlR X (uSl X.K) := by
  intro pins s σ H x v vl vu lo hi sl Q I rx hs pl pu h
  cases x <;> first | exact h.elim | skip
  · exact sl_str pins s σ H _ v vl vu lo hi sl Q I rx hs pl pu ⟨_, rfl, h.1, h.2⟩
  · exact (sl_list.or sl_tupA) pins s σ H _ v vl vu lo hi sl Q I rx hs pl pu h
section
variable {K : PySem.W.Frag} {σ : L2.St} {H : Hp} {Q : VK} {te : TE} {tl th : TO} {p : Addr} {xs : List V} {lo hi : Option Int} {QO : Option Int → Hp → Prop}
theorem z_sl {r : V → Option Int → Option Int → Hp → VK → Prop} (k : te σ H fun x H1 => tl σ H1 fun l H2 => th σ H2 fun u H3 => r x l u H3 Q) : tSl r te tl th σ H Q := k
theorem z_part (k : te σ H fun x H1 => ∃ i, x = .int i ∧ QO (some i) H1) : tPart te σ H QO := k
theorem z_noPart (k : QO none H) : tNoPart σ H QO := k
theorem z_parti {P : Int → Prop} {a : Int} (k : P a) : ∃ i, V.int a = .int i ∧ P i := ⟨a, rfl, k⟩
theorem z_slL (h : SqL K H p xs) (k : ∀ l, H l = none → Q (.ref l) (upd H l (.lst (cutV xs lo hi)))) : uSl K (.ref p) lo hi H Q := .inl ⟨p, xs, rfl, h, k⟩
end
def zLcZ (K : PySem.W.Frag) (g : TG) (tt : TT) (te : TE) (vs : List Nat) (σ : L2.St) (as : List V) (H1 : Hp) (Q : VK) : Prop := ∃ a b xs ys, as = [.ref a, .ref b] ∧ ((SqL K H1 a xs ∧ SqL K H1 b ys ∧ ∀ D, H1 D = none → ∃ W : Nat → Nat → Hp → Prop, (∃ m, W 0 m (upd H1 D (.lst []))) ∧ ∀ i m H, W i m H →
  ((Itz K a b).stop i H ∧ Q (.ref D) H) ∨ ((Itz K a b).go i H ∧ ∃ Nx : Hp → Prop, (∀ H', Nx H' → ∃ m', m' < m ∧ W (i + 1) m' H') ∧ ∀ x H', (Itz K a b).yld i H x H' → g x (wipe σ vs) H' fun σ2 H2 => wipe σ2 vs = wipe σ vs ∧ tt σ2 H2 fun b H3 =>
    if b = true then te σ2 H3 fun y H4 => ∃ acc, H4 D = some (.lst acc) ∧ acc.length < sizeLine ∧ Nx (upd H4 D (.lst (acc ++ [y]))) else Nx H3)) ∨
  (SqT K H1 a xs ∧ SqT K H1 b ys ∧ ∀ D, H1 D = none → ∃ W : Nat → Nat → Hp → Prop, (∃ m, W 0 m (upd H1 D (.lst []))) ∧ ∀ i m H, W i m H →
  ((RZ.ItzT K a b).stop i H ∧ Q (.ref D) H) ∨ ((RZ.ItzT K a b).go i H ∧ ∃ Nx : Hp → Prop, (∀ H', Nx H' → ∃ m', m' < m ∧ W (i + 1) m' H') ∧ ∀ x H', (RZ.ItzT K a b).yld i H x H' → g x (wipe σ vs) H' fun σ2 H2 => wipe σ2 vs = wipe σ vs ∧ tt σ2 H2 fun b H3 =>
    if b = true then te σ2 H3 fun y H4 => ∃ acc, H4 D = some (.lst acc) ∧ acc.length < sizeLine ∧ Nx (upd H4 D (.lst (acc ++ [y]))) else Nx H3)))
section
variable {K : PySem.W.Frag} {σ : L2.St} {H : Hp} {ta : TA} {g : TG} {a b : Addr} {xs ys : List V} {tt : TT} {te : TE} {vs : List Nat} {Q : VK}
theorem z_lcZ (k : ta σ H fun as H1 => zLcZ K g tt te vs σ as H1 Q) : tLc (RZ.iZipA K ta) g tt te vs σ H Q := k
end
local macro_rules | `(tactic| walk_at "ne") => `(tactic| with_reducible first | assumption | exact Ne.symm (by assumption) | exact ne_n (by assumption) (by assumption) | exact Ne.symm (ne_n (by assumption) (by assumption)))
local macro_rules | `(tactic| walk_at "df") => `(tactic| (intro zz; cases zz; done))
local macro_rules | `(tactic| walk_at "ns") => `(tactic| first | exact NotSt.ints | exact NotSt.refs | exact NotSt.strs | (intro _ _ _ zz; cases zz; done))
local macro_rules | `(tactic| walk_at "lk") => `(tactic| with_reducible first | assumption | ((show upd _ _ _ _ = _); first | exact upd_same | exact lk_new (by assumption) (by walk_at "lk") | ((fail_if_success refine lk_new (by assumption) ?_); first | exact lk_ne (by walk_at "ne") (by walk_at "lk") | exact lk_df (by walk_at "lk") (by walk_at "lk") (by with_unfolding_all walk_at "df"))) | exact ExD.lk (by assumption) (by walk_at "lk") (by with_unfolding_all walk_at "ns") | exact Same.lk (by assumption) (by walk_at "lk"))
local macro_rules | `(tactic| walk_at "sqL") => `(tactic| with_reducible first | assumption | exact SqL.of (by walk_at "lk") | ((show SqL _ (upd _ _ _) _ _); first | exact sqL_new (by assumption) (by walk_at "sqL") | exact sqL_ne (by walk_at "ne") (by walk_at "sqL")) | exact Same.seq (by assumption) (by walk_at "sqL"))
local macro_rules | `(tactic| walk_at "sqT") => `(tactic| with_reducible first | assumption | exact SqT.of (by walk_at "lk") | ((show SqT _ (upd _ _ _) _ _); first | exact sqT_new (by assumption) (by walk_at "sqT") | exact sqT_ne (by walk_at "ne") (by walk_at "sqT")))
local macro_rules | `(tactic| walk_at "sq") => `(tactic| first | exact Or.inl (by walk_at "sqL") | exact Or.inr (by walk_at "sqT"))
local macro_rules | `(tactic| walk_at "mulok") => `(tactic| first | exact mul1 (by omega) | exact mul2 (by omega))
local macro_rules | `(tactic| walk_at "few") => `(tactic| (simp only [List.length_cons, List.length_nil]; with_unfolding_all decide))
local macro_rules | `(tactic| walk_at "zo") => `(tactic| (with_reducible first
  | refine z_add ?_ | refine z_sub ?_ | refine z_lt ?_ | refine z_le ?_ | refine z_gt ?_ | refine z_ge ?_ | refine z_eq ?_ | refine z_ne ?_ | refine z_neg ?_ | refine z_int ?_ | refine z_max ?_ | refine z_min ?_ | refine z_abs ?_
  | refine z_eqS ?_ | refine z_neS ?_ | refine z_eqIS ?_ | refine z_eqSI ?_ | refine z_neIS ?_ | refine z_neSI ?_ | refine z_eqB ?_ | refine z_neB ?_ | refine z_eqN ?_ | refine z_neN ?_ | refine z_is ?_ | refine z_isNot ?_ | refine z_isB ?_ | refine z_isNotB ?_ | refine z_isbb ?_ | refine z_isbi ?_
  | refine z_ltS ?_ | refine z_leS ?_ | refine z_gtS ?_ | refine z_geS ?_ | refine z_isii ?_ | refine z_isib ?_))
local macro_rules | `(tactic| walk_at "zp") => `(tactic| with_reducible first
  | ((show uMul _ _ _ _); refine z_mul (by walk_at "mulok") ?_)
  | ((show uDiv _ _ _ _); refine z_div (by exact div1 (by omega)) ?_)
  | ((show uMod _ _ _ _); refine z_mod (by omega) ?_)
  | ((show uPow _ _ _ _); refine z_pow (by with_unfolding_all exact ⟨by decide, by decide, by decide⟩) ?_; (simp only [Int.reduceToNat, Int.reducePow]))
  | ((show uIx _ _ _ _ _); refine z_ix (by walk_at "sq") (by first | with_unfolding_all rfl | assumption) ?_)
  | ((show uLen _ _ _ _); refine z_len (by walk_at "sq") ?_)
  | ((show uList _ _ _ _); refine z_list (by walk_at "sq") ?_; intro _ _)
  | ((show uSl _ (V.ref _) _ _ _ _); refine z_slL (by walk_at "sqL") ?_; intro _ _)
  | ((show rSetL _ _ _ _ _); refine z_setL (by walk_at "lk") (by with_unfolding_all rfl) ?_)
  | ((show tyV _ "list" _ _ ∧ _); refine ⟨tyL (by walk_at "lk"), ?_⟩)
  | ((show uIsi _ [_, V.ty "list"] _ _); refine z_isll (by walk_at "lk") ?_)
  | ((show uIsi _ [_, V.ty "tuple"] _ _); refine z_istt (by walk_at "lk") ?_)
  | ((show zNewL _ _ _); refine z_newL (by walk_at "few") ?_; intro _ _)
  | ((show zNewT _ _ _); refine z_newT (by walk_at "few") ?_; intro _ _))
local macro_rules | `(tactic| walk_at "ze") => `(tactic| (with_reducible first
  | ((show tVar _ _ _ _); refine z_var (by with_unfolding_all rfl) ?_) | refine z_c ?_ | refine z_op ?_ | refine z_cons ?_ | refine z_nil ?_ | refine z_cal ?_ | refine z_cb ?_ | refine z_test ?_ | refine z_bl ?_ | refine z_un ?_
  | refine z_tru ?_ | refine z_trub ?_ | refine z_trui ?_ | refine z_and ?_ | refine z_or ?_ | refine z_not ?_ | refine z_andV ?_ | refine z_orV ?_ | refine z_notV ?_ | refine z_bl1 ?_ | refine z_if ?_ | refine z_lst ?_ | refine z_tup ?_ | refine z_chain ?_))
local macro_rules | `(tactic| walk_at "zs") => `(tactic| (with_reducible first
  | refine z_seq ?_ | refine z_asg ?_ | refine z_ifS ?_ | refine z_ret ?_ | refine z_drop ?_ | refine z_next ?_ | refine z_brk ?_ | refine z_cont ?_ | refine z_retN ?_ | refine z_iteT ?_ | refine z_iteF ?_ | refine z_for1 ?_ | refine z_for2 ?_ | refine z_asgS ?_ | refine z_bm ?_ | refine z_forSq ?_ | refine z_forZ ?_ | refine z_forE ?_ | refine z_lcE ?_ | refine z_lcZ ?_ | refine z_fldt ?_ | refine z_sett ?_ | refine z_lcSq ?_ | refine z_lc1 ?_ | refine z_yes ?_ | refine z_gName ?_ | refine z_sl ?_ | refine z_part ?_ | refine z_noPart ?_ | refine z_parti ?_))
local macro_rules | `(tactic| walk_at "z") => `(tactic| first | walk_at "ze" | walk_at "zo" | walk_at "zs" | walk_at "zp" | (dsimp only [List.set]))
local macro_rules | `(tactic| walk_at "zz") => `(tactic| repeat (walk_at "z"))
local macro_rules | `(tactic| walk_at "zd") => `(tactic| ((with_reducible show ite _ _ _); first | refine z_iteT' (by decide +kernel) ?_ | refine z_iteF' (by decide +kernel) ?_))
local macro_rules | `(tactic| walk_at "zx") => `(tactic| repeat (first | walk_at "z" | walk_at "zd"))

structure CEnv where
  cls : Str → Addr
  has : Str → Prop
  all : Str → Prop
  tb : List (Addr × Str)
def SUBE : List (Str × Str) := [("InvalidSchema", "SurenearError"), ("InvalidRecord", "SurenearError"), ("InvalidKey", "SurenearError"), ("InvalidFilter", "SurenearError"), ("InvalidQuery", "SurenearError"), ("InvalidRule", "SurenearError"), ("InvalidCode", "SurenearError")]
def SUBE2 : List (Str × Str) := [("InvalidOperation", "SurenearError"), ("InvalidSource", "SurenearError"), ("NoSuchMoment", "SurenearError"), ("NotPinned", "SurenearError"), ("NoSuchQuery", "SurenearError"), ("NotNow", "SurenearError"), ("NotUp", "SurenearError")]
def SUBP : List (Str × Str) := [("Norms", "Fact"), ("Parts", "Fact"), ("Cell", "Fact"), ("Box", "Fact"), ("Differ", "Fact"), ("Counts", "Fact"), ("Names", "Fact"), ("Range", "FieldFact"), ("Values", "FieldFact"), ("Range", "Fact"), ("Values", "Fact"), ("FieldFact", "Fact"),
  ("Every", "Condition"), ("Has", "Condition"), ("Compare", "Condition"), ("OneOf", "Condition"), ("Both", "Condition"), ("Either", "Condition"), ("Negation", "Condition")]
def SUB (x y : Str) : Bool := x == y || SUBP.contains (x, y) || SUBE.contains (x, y) || SUBE2.contains (x, y)
structure ClsOk (K : PySem.W.Frag) (c : CEnv) (x : Str) (gs : List Str) : Prop where
  cl : Cls K (c.cls x)
  na : ∀ f, gs.contains f = true → NoAttr K (c.cls x) f
  ha : PySem.W.findIn K (.ref (c.cls x)) "__class__" = some (some (.builtin "object.__class__"))
  hn : PySem.W.specialIn K (.builtin "object.__class__") "__get__" = some (some (.builtin "getset_descriptor.__get__"))
  htk : PySem.W.takesIn K (.builtin "object.__class__") = some true
  hm : PySem.W.mroIn K (c.cls x) (.type "object") = some true
  sub : ∀ y, c.has y → PySem.W.kitOne K (.ref (c.cls x)) (.ref (c.cls y)) = some (SUB x y)
  sb : ∀ y, c.has y → PySem.W.subIn K (.ref (c.cls x)) (.ref (c.cls y)) = some (SUB x y)
  al : c.all x
  inj : ∀ y, c.all y → c.cls x = c.cls y → x = y
structure IsF (K : PySem.W.Frag) (c : CEnv) (x : Str) : Prop where
  has : c.has x
  ki : ∀ n, ["int", "bool", "str", "NoneType", "tuple", "list", "dict"].contains n = true → PySem.W.kitOne K (.type n) (.ref (c.cls x)) = some false
  si : ∀ n, ["int", "bool", "str", "NoneType", "tuple", "list", "dict"].contains n = true → PySem.W.subIn K (.type n) (.ref (c.cls x)) = some false
theorem lk_inj : ∀ {l : List (Str × Addr)}, (l.map (·.1)).Nodup → (l.map (·.2)).Nodup → ∀ {x y : Str}, x ∈ l.map (·.1) → y ∈ l.map (·.1) → (l.lookup x).getD 0 = (l.lookup y).getD 0 → x = y
  | [], _, _, _, _, h, _, _ => by cases h
  | z :: l, h1, h2, x, y, hx, hy, e => by
    rw [List.map_cons, List.nodup_cons] at h1 h2
    have mem : ∀ {u : Str} {l : List (Str × Addr)}, u ∈ l.map (·.1) → ∃ a, l.lookup u = some a ∧ a ∈ l.map (·.2) := by
      intro u l
      induction l with
      | nil => intro h; cases h
      | cons w l ih =>
        intro h
        rw [List.lookup_cons]
        by_cases q : (u == w.1) = true
        · rw [q]; exact ⟨w.2, rfl, by rw [List.map_cons]; exact List.mem_cons_self ..⟩
        · have q' : (u == w.1) = false := by simpa using q
          rw [q']
          rw [List.map_cons] at h
          rcases List.mem_cons.mp h with h | h
          · rw [h] at q; simp at q
          · obtain ⟨a, h1, h2⟩ := ih h
            exact ⟨a, h1, by rw [List.map_cons]; exact List.mem_cons_of_mem _ h2⟩
    rw [List.lookup_cons, List.lookup_cons] at e
    by_cases qx : (x == z.1) = true
    · by_cases qy : (y == z.1) = true
      · rw [beq_iff_eq] at qx qy; rw [qx, qy]
      · have qy' : (y == z.1) = false := by simpa using qy
        rw [qx, qy'] at e
        rw [List.map_cons] at hy
        rcases List.mem_cons.mp hy with hy | hy
        · rw [hy] at qy; simp at qy
        · obtain ⟨a, k1, k2⟩ := mem hy
          rw [k1] at e
          exact absurd (show z.2 ∈ l.map (·.2) from (show z.2 = a from e) ▸ k2) h2.1
    · have qx' : (x == z.1) = false := by simpa using qx
      rw [List.map_cons] at hx hy
      rcases List.mem_cons.mp hx with hx | hx
      · rw [hx] at qx; simp at qx
      · by_cases qy : (y == z.1) = true
        · rw [qx', qy] at e
          obtain ⟨a, k1, k2⟩ := mem hx
          rw [k1] at e
          exact absurd (show z.2 ∈ l.map (·.2) from (show z.2 = a from e.symm) ▸ k2) h2.1
        · have qy' : (y == z.1) = false := by simpa using qy
          rcases List.mem_cons.mp hy with hy | hy
          · rw [hy] at qy; simp at qy
          · rw [qx', qy'] at e
            exact lk_inj h1.2 h2.2 hx hy e
def InsAt (K : PySem.W.Frag) (c : CEnv) (H : Hp) (p : Addr) (x : Str) (fs : List (Str × V)) : Prop := ClsOk K c x (fs.map (·.1)) ∧ ∃ dx, H p = some (.ins (c.cls x) dx fs)
theorem InsAt.same {K : PySem.W.Frag} {c : CEnv} {H H' : Hp} {p : Addr} {x : Str} {fs : List (Str × V)} (s : Same H H') (i : InsAt K c H p x fs) : InsAt K c H' p x fs := ⟨i.1, i.2.choose, s _ _ i.2.choose_spec⟩
theorem NotSt.ins {C dx : Addr} {fs : List (Str × V)} : NotSt (.ins C dx fs) := fun _ _ _ z => by cases z
theorem NotSt.tup {xs : List V} : NotSt (.tup xs) := fun _ _ _ z => by cases z
theorem InsAt.new {K : PySem.W.Frag} {c : CEnv} {H : Hp} {p r : Addr} {x : Str} {fs : List (Str × V)} {o : HO} (h : H r = none) (i : InsAt K c H p x fs) : InsAt K c (upd H r o) p x fs := ⟨i.1, i.2.choose, lk_new h i.2.choose_spec⟩
theorem InsAt.putL {K : PySem.W.Frag} {c : CEnv} {H : Hp} {p r : Addr} {x : Str} {fs : List (Str × V)} {xs : List V} {o : HO} (h : H r = some (.lst xs)) (i : InsAt K c H p x fs) : InsAt K c (upd H r o) p x fs := ⟨i.1, i.2.choose, lk_df i.2.choose_spec h (fun z => by cases z)⟩
structure Mkr (P : Program) (w : World) (K : PySem.W.Frag) (mg : Str → Option Value) (base : Heap) (k : Nat) (C : Addr) (ps : List Str) (sp : Sp) : Prop where
  ex : ∃ (f : Addr) (fd : FuncData), Mk K C f ∧ Binds K fd ps [] ∧ FnOk P w K mg base CX0 k f fd ps sp
structure Mth (P : Program) (w : World) (K : PySem.W.Frag) (mg : Str → Option Value) (base : Heap) (k : Nat) (C : Addr) (m : Str) (ps : List Str) (sp : Sp) : Prop where
  ex : ∃ (f : Addr) (fd : FuncData), Meth K C m f ∧ Binds K fd ps [] ∧ FnOk P w K mg base CX0 k f fd ps sp
structure ClsF (K : PySem.W.Frag) (mg : Str → Option Value) (c : CEnv) (x : Str) (gs : List Str) : Prop where
  ok : ClsOk K c x gs
  is : c.has x → IsF K c x
  mg : mg x = some (.ref (c.cls x))
def tMk (K : PySem.W.Frag) (c : CEnv) (x : Str) (gs : List Str) (sp : Sp) (t : TA) : TE := fun σ H Q => t σ H fun vs H1 => ClsOk K c x gs → ∀ p dx, H1 p = none → H1 dx = none → dx ≠ p →
  sp (.ref p :: vs) (upd (upd H1 dx (.own p)) p (.ins (c.cls x) dx [])) (fun v H2 => v = .non ∧ Q (.ref p) H2) E0
def tMt (c : CEnv) (x m : Str) (sp : Sp) (ta : TE) (t : TA) : TE := fun σ H Q => ta σ H fun v H1 => ∃ a dx fs, v = .ref a ∧ H1 a = some (.ins (c.cls x) dx fs) ∧ fs.lookup m = none ∧ t σ H1 fun vs H2 => sp (v :: vs) H2 Q E0
def tPr (c : CEnv) (x : Str) (sp : Sp) (ta : TE) : TE := fun σ H Q => ta σ H fun v H1 => ∃ a dx fs, v = .ref a ∧ H1 a = some (.ins (c.cls x) dx fs) ∧ sp [.ref a] H1 Q E0
def tCls (K : PySem.W.Frag) (c : CEnv) (x : Str) : TE := fun _ H Q => IsF K c x → Q (.ref (c.cls x)) H
section
variable {X : Cx} {c : CEnv} {k : Nat} {x m : Str} {ps gs : List Str} {sp : Sp} {p pos apos : Pos} {e o : Expr} {es : List Expr} {t : TA} {ta : TE}
theorem z_make (CF : ClsF X.K X.mg c x gs) (M : Mkr X.prog X.w X.K X.mg X.base k (c.cls x) ps sp) (hr : Room (k + 1) X.A) (hg : Gl X x) (ha : PA X (e :: es) t) (hdb : (x == ("__debug__" : Str)) = false := by decide)
    (he : starEach (e :: es) X.env = (false, eval e X.env) :: starEach es X.env := by rfl) (hpl : (backTo pos (starEach es X.env)).any (·.1) = false := by rfl) : PE X (.Call (.Name x p) (e :: es) [] pos) (tMk X.K c x gs sp t) := by
  obtain ⟨f, fd, hM, hb, F⟩ := M.ex
  have h := pe_make (E := E0) (dvs := []) (p := p) (pos := pos) hM F hr hg CF.mg hb .nil pass0 ha hdb he hpl
  refine ⟨fun pins s σ H Q I q => h.run pins s σ H Q I ?_⟩
  simp only [tMake, List.append_nil]
  have e : (t σ H fun vs H1 => ClsOk X.K c x gs → ∀ p dx, H1 p = none → H1 dx = none → dx ≠ p → sp (.ref p :: vs) (upd (upd H1 dx (.own p)) p (.ins (c.cls x) dx [])) (fun v H2 => v = .non ∧ Q (.ref p) H2) E0)
      = (t σ H fun vs H1 => ∀ p dx, H1 p = none → H1 dx = none → dx ≠ p → sp (.ref p :: vs) (upd (upd H1 dx (.own p)) p (.ins (c.cls x) dx [])) (fun v H2 => v = .non ∧ Q (.ref p) H2) E0) := by
    congr 1; funext vs H1; exact propext ⟨fun h => h CF.ok, fun h _ => h⟩
  rw [← e]; exact q
theorem z_meth {pl : Sem Bool} (he : PE X o ta) (CF : ClsF X.K X.mg c x gs) (M : Mth X.prog X.w X.K X.mg X.base k (c.cls x) m ps sp) (hr : Room k X.A) (ha : PA X (e :: es) t)
    (hst : starEach (e :: es) X.env = (false, eval e X.env) :: starEach es X.env := by rfl) (hpl : (backTo pos (starEach es X.env)).any (·.1) = false := by rfl)
    (ht : eval (.Call (.Attribute o m apos) (e :: es) [] pos) X.env = (do
      let ov ← eval o X.env
      standAt apos.atName
      let (f, first) ← holding [ov] (getMethod ov m pl)
      callWith pos f first (backTo pos (starEach (e :: es) X.env)) (backToKw pos (keywordEach [] X.env))) := by rfl) : PE X (.Call (.Attribute o m apos) (e :: es) [] pos) (tMt c x m sp ta t) := by
  obtain ⟨f, fd, hM, hb, F⟩ := M.ex
  have h := pe_meth (E := E0) (dvs := []) he CF.ok.cl hM F hr hb .nil pass0 ha hst hpl ht
  have e : tMeth (c.cls x) m sp [] E0 ta t = tMt c x m sp ta t := by
    funext σ H Q; simp only [tMeth, tMt, List.append_nil]
  rw [← e]; exact h
end
section
variable {X : Cx} {c : CEnv} {k : Nat} {x : Str} {ps gs : List Str} {sp : Sp}
end
section
variable {K : PySem.W.Frag} {c : CEnv} {x f : Str} {gs : List Str} {H : Hp} {Q : VK} {p dx : Addr} {fs : List (Str × V)} {v : V} {σ : L2.St} {t : TA} {ta : TE} {sp : Sp} {m : Str}
theorem z_fld (ok : ClsOk K c x gs) (h : H p = some (.ins (c.cls x) dx fs)) (l : fs.lookup f = some v) (n : gs.contains f = true) (k : Q v H) : zFld K f (.ref p) H Q := ⟨p, _, dx, fs, v, rfl, h, ok.cl, ok.na f n, l, k⟩
theorem z_set {N : Hp → Prop} {y : V} (ok : ClsOk K c x gs) (h : H p = some (.ins (c.cls x) dx fs)) (n : gs.contains f = true) (l : fs.length < 1000) (k : N (upd H p (.ins (c.cls x) dx (putF f y fs)))) : zSet K f y (.ref p) H N := ⟨p, _, dx, fs, rfl, h, ok.cl, ok.na f n, l, k⟩
theorem z_mk (k : t σ H fun vs H1 => ClsOk K c x gs → ∀ p dx, H1 p = none → H1 dx = none → dx ≠ p → sp (.ref p :: vs) (upd (upd H1 dx (.own p)) p (.ins (c.cls x) dx [])) (fun v H2 => v = .non ∧ Q (.ref p) H2) E0) : tMk K c x gs sp t σ H Q := k
theorem z_mt (k : ta σ H fun v H1 => ∃ a dx fs, v = .ref a ∧ H1 a = some (.ins (c.cls x) dx fs) ∧ fs.lookup m = none ∧ t σ H1 fun vs H2 => sp (v :: vs) H2 Q E0) : tMt c x m sp ta t σ H Q := k
theorem z_pr (k : ta σ H fun v H1 => ∃ a dx fs, v = .ref a ∧ H1 a = some (.ins (c.cls x) dx fs) ∧ sp [.ref a] H1 Q E0) : tPr c x sp ta σ H Q := k
theorem z_clsv (k : IsF K c x → Q (.ref (c.cls x)) H) : tCls K c x σ H Q := k
end
theorem na_of {P : Str → Prop} {gs : List Str} (h : ∀ f ∈ gs, P f) : ∀ f, gs.contains f = true → P f := fun f hf => h f (by simpa using hf)
local macro_rules | `(tactic| walk_at "z") => `(tactic| with_reducible first
  | ((show zFld _ _ _ _ _); refine z_fld (by assumption) (by walk_at "lk") (by with_unfolding_all rfl) (by with_unfolding_all rfl) ?_)
  | ((show zSet _ _ _ _ _ _); refine z_set (by assumption) (by walk_at "lk") (by with_unfolding_all rfl) (by with_unfolding_all exact of_decide_eq_true rfl) ?_)
  | (refine z_mk ?_) | (refine z_mt ?_) | (refine z_pr ?_) | (refine z_clsv ?_; intro _))

-- _law_row(_law_script, _law_k): slots 0:_law_script 1:_law_k 2:_law_cell 3:_law_a 4:_law_b 5:_law_c
def T_law_row (K : PySem.W.Frag) : TS :=
    (tSeq (tAsg (tC (.int 0)) (gName 2))
    (tCut (tIfS (tTest (tOp (uLt K) (tVar 1) (tCB (uLen K) (tCons (tVar 0) tNil)))) (tAsg (tOp (uIx K) (tVar 0) (tVar 1)) (gName 2)) tNext)
    (tCut (tIfS (tTest (tOp (uLt K) (tVar 2) (tC (.int 0)))) (tAsg (tOp uSub (tOp uMul (tUn uNeg (tC (.int 2))) (tVar 2)) (tC (.int 1))) (gName 2)) tNext)
    (tCut (tIfS (tTest (tOp (uLt K) (tVar 2) (tOp uPow (tC (.int 10)) (tC (.int 9))))) (tSeq (tAsg (tOp uMod (tCB uInt (tCons (tOp (uAdd K) (tOp (uAdd K) (tOp uMul (tVar 2) (tC (.int 48271))) (tOp uMul (tVar 1) (tC (.int 69621)))) (tC (.int 11))) tNil)) (tC (.int 2147483647))) (gName 3))
    (tSeq (tAsg (tOp uMod (tCB uInt (tCons (tOp (uAdd K) (tOp (uAdd K) (tOp (uAdd K) (tOp uMul (tVar 3) (tC (.int 16807))) (tOp uMul (tVar 2) (tC (.int 7)))) (tVar 1)) (tC (.int 5))) tNil)) (tC (.int 2147483629))) (gName 4))
    (tSeq (tAsg (tOp uMod (tCB uInt (tCons (tOp (uAdd K) (tOp (uAdd K) (tOp uMul (tVar 4) (tC (.int 39373))) (tOp uMul (tVar 3) (tVar 4))) (tC (.int 3))) tNil)) (tC (.int 2147483587))) (gName 5))
    (tAsg (tOp (uAdd K) (tOp (uAdd K) (tVar 3) (tOp uMul (tVar 4) (tC (.int 2147483647)))) (tOp uMul (tVar 5) (tOp uPow (tC (.int 2147483647)) (tC (.int 2))))) (gName 2))))) tNext)
    (tRet (tVar 2))))))
def sp_law_row (K : PySem.W.Frag) : Sp := fun vs H Q _ => ∃ (L : Addr) (ns : List Int) (k : Int), vs = [.ref L, .int k] ∧ SqL K H L (ns.map V.int) ∧ 0 ≤ k ∧ ∀ c : Int, 0 ≤ c → Q (.int c) H
theorem r_law_row {K : PySem.W.Frag} {L : Addr} {ns : List Int} {k : Int} {H : Hp} {D : Ends} (hL : SqL K H L (ns.map V.int)) (hk : 0 ≤ k) (q : ∀ c : Int, 0 ≤ c → D.rt (.int c) H) :
    T_law_row K D [some (.ref L), some (.int k), none, none, none, none] H := by
  unfold T_law_row
  walk_at "zz"
  refine z_cut (fun σ H' => H = H' ∧ ∃ c : Int, σ = [some (.ref L), some (.int k), some (.int c), none, none, none]) ?_ ?_
  · walk_at "zz"
    refine z_itD (fun c => ?_) (fun c => ?_)
    · walk_at "zz"
      refine z_ix (.inl hL) (at_int hk (by simpa using c)) ?_
      walk_at "zz"
      exact ⟨rfl, _, rfl⟩
    · walk_at "zz"
      exact ⟨rfl, _, rfl⟩
  rintro σ H' ⟨rfl, c, rfl⟩
  refine z_cut (fun σ H' => H = H' ∧ ∃ c : Int, 0 ≤ c ∧ σ = [some (.ref L), some (.int k), some (.int c), none, none, none]) ?_ ?_
  · walk_at "zz"
    refine z_itD (fun c => ?_) (fun c => ?_)
    · walk_at "zz"
      exact ⟨rfl, _, by omega, rfl⟩
    · walk_at "zz"
      exact ⟨rfl, _, by omega, rfl⟩
  rintro σ H' ⟨rfl, c, hc, rfl⟩
  refine z_cut (fun σ H' => H = H' ∧ ∃ (c : Int) (x y z : Option V), 0 ≤ c ∧ σ = [some (.ref L), some (.int k), some (.int c), x, y, z]) ?_ ?_
  · walk_at "zz"
    refine z_itD (fun h => ?_) (fun h => ?_)
    · walk_at "zz"
      refine ⟨rfl, _, _, _, _, ?_, rfl⟩
      omega
    · walk_at "zz"
      exact ⟨rfl, _, _, _, _, hc, rfl⟩
  rintro σ H' ⟨rfl, c, x, y, z, hc, rfl⟩
  walk_at "zz"
  exact q c hc
-- _law_next(_law_state, _law_many): slots 0:_law_state 1:_law_many 2:_law_drawn
def T_law_next (K : PySem.W.Frag) : TS :=
    (tCut (tIfS (tTest (tOp (uLt K) (tOp (uIx K) (tVar 0) (tC (.int 2))) (tVar 1))) (tSeq (tAsg (tCal (sp_law_row K) (tCons (tOp (uIx K) (tVar 0) (tC (.int 0))) (tCons (tOp (uIx K) (tVar 0) (tC (.int 1))) tNil))) (gSub (tVar 0) (tC (.int 2)) rSetL))
    (tAsg (tOp (uAdd K) (tOp (uIx K) (tVar 0) (tC (.int 1))) (tC (.int 1))) (gSub (tVar 0) (tC (.int 1)) rSetL))) tNext)
    (tSeq (tAsg (tOp uMod (tCB uInt (tCons (tOp (uIx K) (tVar 0) (tC (.int 2))) tNil)) (tVar 1)) (gName 2))
    (tSeq (tAsg (tOp uDiv (tOp (uIx K) (tVar 0) (tC (.int 2))) (tVar 1)) (gSub (tVar 0) (tC (.int 2)) rSetL))
    (tRet (tVar 2)))))
structure Draw (H : Hp) (st L : Addr) : Prop where
  ex : ∃ (ns : List Int) (k a : Int), H st = some (.lst [.ref L, .int k, .int a]) ∧ H L = some (.lst (ns.map V.int)) ∧ L ≠ st ∧ 0 ≤ k ∧ 0 ≤ a
theorem Draw.ne {H : Hp} {st L p : Addr} (h : H p = none) (d : Draw H st L) : p ≠ st := by
  obtain ⟨_, _, _, e, _⟩ := d.ex
  exact (ne_of_none e h).symm
theorem Draw.neL {H : Hp} {st L p : Addr} (h : H p = none) (d : Draw H st L) : p ≠ L := by
  obtain ⟨_, _, _, _, e, _⟩ := d.ex
  exact (ne_of_none e h).symm
theorem Draw.new {H : Hp} {st L p : Addr} {o : HO} (h : H p = none) (d : Draw H st L) : Draw (upd H p o) st L := by
  obtain ⟨ns, k, a, e, s, n, hk, ha⟩ := d.ex
  exact ⟨ns, k, a, lk_ne (ne_of_none e h) e, lk_ne (ne_of_none s h) s, n, hk, ha⟩
theorem Draw.same {H H' : Hp} {st L : Addr} (x : Same H H') (d : Draw H st L) : Draw H' st L := by
  obtain ⟨ns, k, a, e, s, n, hk, ha⟩ := d.ex
  exact ⟨ns, k, a, x _ _ e, x _ _ s, n, hk, ha⟩
theorem Draw.put {H : Hp} {st L p : Addr} {o : HO} (h1 : p ≠ st) (h2 : p ≠ L) (d : Draw H st L) : Draw (upd H p o) st L := by
  obtain ⟨ns, k, a, e, s, n, hk, ha⟩ := d.ex
  exact ⟨ns, k, a, lk_ne h1.symm e, lk_ne h2.symm s, n, hk, ha⟩
theorem Draw.back {H H' : Hp} {st L p : Addr} (d : Draw H' st L) (x : ExD H H') (h : H' p = none) (hs : ∀ L k a, H p = some (.lst [.ref L, .int k, .int a]) → p = st) : H p = none := by
  cases e : H p with
  | none => rfl
  | some o =>
    by_cases n : NotSt o
    · have := x p o n e
      rw [h] at this; cases this
    · exfalso
      apply n
      rintro L k a rfl
      exact Draw.ne h d (hs L k a e)
def sp_law_next (K : PySem.W.Frag) : Sp := fun vs H Q _ => ∃ (st L : Addr) (m : Int), vs = [.ref st, .int m] ∧ Draw H st L ∧ 0 < m ∧ m < 1000000000000000000 ∧ ∀ (r : Int) (H' : Hp), 0 ≤ r → r < m → Draw H' st L → ExD H H' → (∀ a, a ≠ st → H' a = H a) → Q (.int r) H'
theorem law_row_c {K : PySem.W.Frag} {L : Addr} {k : Int} {H : Hp} {Q : VK} {E : XK} {ns : List Int} (hL : SqL K H L (ns.map V.int)) (hk : 0 ≤ k) (q : ∀ c : Int, 0 ≤ c → Q (.int c) H) : sp_law_row K [.ref L, .int k] H Q E := ⟨L, ns, k, rfl, hL, hk, q⟩
theorem r_law_next {K : PySem.W.Frag} {st L : Addr} {m : Int} {H : Hp} {D : Ends} (d : Draw H st L) (h0 : 0 < m) (h1 : m < 1000000000000000000) (q : ∀ (r : Int) (H' : Hp), 0 ≤ r → r < m → Draw H' st L → ExD H H' → (∀ a, a ≠ st → H' a = H a) → D.rt (.int r) H') :
    T_law_next K D [some (.ref st), some (.int m), none] H := by
  obtain ⟨ns, k, a, e, sL, n, hk, ha⟩ := d.ex
  have s : SqL K H L (ns.map V.int) := SqL.of sL
  unfold T_law_next
  refine z_cut (fun σ H' => ∃ k a : Int, H' = upd H st (.lst [.ref L, .int k, .int a]) ∧ 0 ≤ k ∧ 0 ≤ a ∧ σ = [some (.ref st), some (.int m), none]) ?_ ?_
  · walk_at "zz"
    refine z_itD (fun h => ?_) (fun h => ?_)
    · walk_at "zz"
      refine law_row_c s hk fun c hc => ?_
      walk_at "zz"
      refine ⟨k + 1, c, ?_, by omega, hc, rfl⟩
      simp only [upd_upd]; rfl
    · walk_at "zz"
      exact ⟨k, a, (upd_self e).symm, hk, ha, rfl⟩
  rintro σ H' ⟨k, a, rfl, hk, ha, rfl⟩
  walk_at "zz"
  refine q _ _ (Int.emod_nonneg _ (by omega)) (Int.emod_lt_of_pos _ h0) ⟨ns, k, a / m, upd_same, ?_, n, hk, Int.ediv_nonneg ha (by omega)⟩ ?_ ?_
  · exact lk_ne n (lk_ne n sL)
  · exact ExD.st e (ExD.st e (ExD.refl H))
  · intro b hb; rw [upd_ne hb, upd_ne hb]
theorem law_next_c {K : PySem.W.Frag} {st L : Addr} {m : Int} {H : Hp} {Q : VK} {E : XK} (d : Draw H st L) (h0 : 0 < m) (h1 : m < 1000000000000000000) (q : ∀ (r : Int) (H' : Hp), 0 ≤ r → r < m → Draw H' st L → ExD H H' → Q (.int r) H') : sp_law_next K [.ref st, .int m] H Q E :=
  ⟨st, L, m, rfl, d, h0, h1, fun r H' a b c e _ => q r H' a b c e⟩
-- _law_is_integer(_law_actual): slots 0:_law_actual
theorem Draw.start {H : Hp} {l p : Addr} {ns : List Int} (h1 : H l = none) (h2 : upd H l (.lst (ns.map V.int)) p = none) : Draw (upd (upd H l (.lst (ns.map V.int))) p (.lst [.ref l, .int 0, .int 0])) p l := by
  have ne : l ≠ p := ne_of_none (H := upd H l (.lst (ns.map V.int))) upd_same h2
  exact ⟨ns, 0, 0, upd_same, lk_ne ne upd_same, ne, by decide, by decide⟩
abbrev N_law_row : List Str := ["_law_script", "_law_k", "_law_cell", "_law_a", "_law_b", "_law_c"]
theorem w_law_row {K : PySem.W.Frag} : Wd (T_law_row K) N_law_row 2 (sp_law_row K) := fun vs H Q E h => by
  obtain ⟨L, ns, k, rfl, h1, h2, q⟩ := h
  exact ⟨rfl, r_law_row h1 h2 q⟩
abbrev N_law_next : List Str := ["_law_state", "_law_many", "_law_drawn"]
theorem w_law_next {K : PySem.W.Frag} : Wd (T_law_next K) N_law_next 2 (sp_law_next K) := fun vs H Q E h => by
  obtain ⟨st, L, m, rfl, d, h0, h1, q⟩ := h
  exact ⟨rfl, r_law_next d h0 h1 q⟩
local macro_rules | `(tactic| walk_at "dr") => `(tactic| with_reducible first | assumption | ((show Draw (upd _ _ _) _ _); first | exact Draw.new (by assumption) (by walk_at "dr") | exact Draw.put (by walk_at "ne") (by walk_at "ne") (by walk_at "dr")) | exact Draw.same (by assumption) (by walk_at "dr"))
local macro_rules | `(tactic| walk_at "nx") => `(tactic| (refine law_next_c (by walk_at "dr") (by first | decide | omega) (by first | decide | omega) ?_))

inductive All2 {α β : Type} (R : α → β → Prop) : List α → List β → Prop
  | nil : All2 R [] []
  | cons {a : α} {b : β} {as : List α} {bs : List β} (h : R a b) (t : All2 R as bs) : All2 R (a :: as) (b :: bs)
section
variable {α β : Type} {R S : α → β → Prop} {as : List α} {bs : List β} {a : α} {b : β}
theorem All2.imp (f : ∀ a b, R a b → S a b) (h : All2 R as bs) : All2 S as bs := by
  induction h with
  | nil => exact .nil
  | cons h t ih => exact .cons (f _ _ h) ih
theorem All2.len (h : All2 R as bs) : as.length = bs.length := by
  induction h with
  | nil => rfl
  | cons h t ih => simp [ih]
theorem All2.get (h : All2 R as bs) : ∀ {i : Nat} (hi : i < as.length) (hj : i < bs.length), R as[i] bs[i] := by
  induction h with
  | nil => intro i hi; cases hi
  | cons h t ih => intro i hi hj; cases i with
    | zero => exact h
    | succ i => exact ih (by simpa using hi) (by simpa using hj)
theorem All2.of {n : Nat} (ha : as.length = n) (hb : bs.length = n) (f : ∀ i (hi : i < as.length) (hj : i < bs.length), R as[i] bs[i]) : All2 R as bs := by
  induction as generalizing bs n with
  | nil => cases bs with
    | nil => exact .nil
    | cons b t => simp at ha hb; omega
  | cons a t ih => cases bs with
    | nil => simp at ha hb; omega
    | cons b u => exact .cons (f 0 (by simp) (by simp)) (ih (n := n - 1) (by simp at ha; omega) (by simp at hb; omega) fun i hi hj => f (i + 1) (by simpa using hi) (by simpa using hj))
end
section
variable {α β : Type} {R : α → β → Prop} {as : List α} {bs : List β} {a : α} {b : β}
theorem All2.take (h : All2 R as bs) : ∀ k : Nat, All2 R (as.take k) (bs.take k) := by
  induction h with
  | nil => intro k; rw [List.take_nil, List.take_nil]; exact .nil
  | cons h t ih => intro k; cases k with
    | zero => exact .nil
    | succ k => exact .cons h (ih k)
theorem All2.drop (h : All2 R as bs) : ∀ k : Nat, All2 R (as.drop k) (bs.drop k) := by
  induction h with
  | nil => intro k; rw [List.drop_nil, List.drop_nil]; exact .nil
  | cons h t ih => intro k; cases k with
    | zero => exact .cons h t
    | succ k => exact ih k
theorem All2.mem (h : All2 R as bs) (ha : a ∈ as) : ∃ b ∈ bs, R a b := by
  induction h with
  | nil => cases ha
  | cons h t ih =>
    rcases List.mem_cons.mp ha with rfl | ha
    · exact ⟨_, List.mem_cons_self .., h⟩
    · obtain ⟨b, hb, r⟩ := ih ha; exact ⟨b, List.mem_cons_of_mem _ hb, r⟩
end
theorem Same.put {H H' : Hp} {p : Addr} {o : HO} (h : H p = none) (x : Same H H') : Same H (upd H' p o) := fun a u e => lk_ne (ne_of_none e h) (x a u e)
section
open PySem.AutoSeq1 (wpAny_loadPart')
abbrev itT (l : Addr) : Obj := { cls := .type "tuple_iterator", data := .fields #[.ref l, .int 0 0] }
abbrev enT (h : Heap) : Obj := { cls := .type "enumerate", data := .fields #[.none, .bool false, .ref h.objs.size, rawInt 0, .none, .none] }
theorem new_enumT (l : Addr) (us : Array Value) (n : Nat) (dd : Option Addr) (ss : Array (Option Value)) :
    Meets (Builtin.«enumerate.__new__» ⟨[.type "enumerate", .ref l], []⟩) (fun _ R s => s.heap.get? l = some { cls := .type "tuple", dict := dd, data := .seq us n, slots := ss } ∧
      R (.ok (.ret (.ref (s.heap.push (itT l)).objs.size))) { s with heap := (s.heap.push (itT l)).push (enT s.heap) }) :=
  .of_wp fun prog w A R s h => by
    obtain ⟨hp, gg, dr, tk, os⟩ := s
    obtain ⟨hl, q⟩ := h
    have se := sub_enumerate
    have isT : Heap.IsTuple (Shared.heap ⟨hp, gg, dr, tk, os⟩) l us := ⟨_, hl, rfl, n, rfl⟩
    wp_walk using wpAny_loadPart' hl
    refine wpAny_stack_any fun st => wpAny_pure ?_
    split
    · rename_i cc _ _ _ _ _
      cases (cc == Value.type "enumerate") <;> (wp_walk using wpAny_loadPart' hl, wpAny_pyIter_tuple isT; exact ⟨_, rfl, q⟩)
    · wp_walk using wpAny_loadPart' hl, wpAny_pyIter_tuple isT
      exact ⟨_, rfl, q⟩
theorem call_enumT {prog : Program} {w : World} {A : Around} {E : Value → Shared → Prop} {s : Shared} {l : Addr} {us : Array Value} {Q : Value → Shared → Prop} (hT : s.heap.IsTuple l us)
    (h : ∀ h', IsEnum h' (s.heap.objs.size + 1) s.heap.objs.size 0 .none → h'.IsTupleIter s.heap.objs.size l 0 → (∀ b o, s.heap.get? b = some o → h'.get? b = some o) → Q (.ref (s.heap.objs.size + 1)) { s with heap := h' }) :
    wpAny (model prog w) A (call (.type "enumerate") [.ref l]) Q E s := by
  obtain ⟨⟨cc, dd, dt, ss⟩, hl, h1, n, h2⟩ := hT
  simp only at h1 h2
  subst h1 h2
  have zz : (s.heap.push (itT l)).objs.size = s.heap.objs.size + 1 := Heap.size_push ..
  have en : IsEnum ((s.heap.push (itT l)).push (enT s.heap)) (s.heap.objs.size + 1) s.heap.objs.size 0 .none := by
    have g := Heap.get?_push_size (s.heap.push (itT l)) (o := enT s.heap) rfl
    rw [zz] at g; exact g
  refine callType_new F.called_enumerate (by decide) (F.typeCall_enumerate_1 _) (F.newCall_enumerate_1 _) (fun obj => F.args_object_init_2 obj _) F.entry_enumerate_new (new_enumT l us n dd ss) ⟨hl, ?_⟩
  show _ ∧ _
  rw [zz]
  exact ⟨⟨_, en, rfl⟩, h _ en ⟨_, Heap.get?_push_of_some _ (Heap.get?_push_size _ rfl), rfl, rfl⟩ fun b o x => Heap.get?_push_of_some _ (Heap.get?_push_of_some _ x)⟩
end
def IteT (K : PySem.W.Frag) (a : Addr) : It :=
  ⟨fun i H => ∃ (xs : List V) (x : V), SqT K H a xs ∧ xs[i]? = some x, fun i H v H' => ∃ T x, v = .ref T ∧ H T = none ∧ H' = upd H T (.tup [.int (i : Nat), x]) ∧ ∀ xs, SqT K H a xs → xs[i]? = some x, fun i H => ∃ xs : List V, SqT K H a xs ∧ xs.length ≤ i⟩
theorem turn_enumT {P : Program} {w : World} {K : PySem.W.Frag} {elts : List Expr} {kk : Nat} {tpos : Pos} (a e it : Addr) :
    Turn P w K (.Tuple elts kk tpos) (IteT K a) [e, it] e (fun i h => (∃ old, IsEnum h e it ((i : Nat) : Int) old) ∧ h.IsTupleIter it a i ∧ e ≠ it) where
  mem := by simp
  obj := fun i h st b hb => by
    obtain ⟨⟨old, en⟩, ⟨o, ho, _, dt⟩, _⟩ := st
    rcases (show b = e ∨ b = it by simpa using hb) with z | z
    · rw [z]; exact ⟨_, en, fun v q => nomatch q⟩
    · rw [z]; exact ⟨o, ho, fun v q => by rw [dt] at q; cases q⟩
  keep := fun i h h' st k => let ⟨⟨old, en⟩, ⟨o, ho, hi⟩, ne⟩ := st; ⟨⟨old, k e (by simp) _ en⟩, ⟨o, k it (by simp) _ ho, hi⟩, ne⟩
  item := by
    intro X hP hw hK hc i pins s σ H E I hf st hg
    subst hP hw hK
    obtain ⟨⟨old, en⟩, hit, ne⟩ := st
    obtain ⟨xs, x, hq, hx⟩ := hg
    obtain ⟨us, rv, p, _⟩ := I.tuple hq
    obtain ⟨u, hu, ru⟩ := rv.get hx
    have p2 : s.heap.IsTuple a us.toArray := p
    have lt1 : e < s.heap.objs.size := Heap.lt_size en
    have lt2 : it < s.heap.objs.size := by obtain ⟨_, q, _⟩ := hit; exact Heap.lt_size q
    have ne2 : a ≠ it := fun z => by
      obtain ⟨o1, g1, c1, _⟩ := hit
      obtain ⟨o2, g2, c2, _⟩ := id p2
      rw [z, g1] at g2; cases g2; rw [c1] at c2; exact absurd c2 (by decide)
    have ne3 : e ≠ a := fun z => by
      obtain ⟨o2, g2, c2, _⟩ := id p2
      rw [← z, show s.heap.get? e = _ from en] at g2; cases g2; exact absurd (show Value.type "enumerate" = Value.type "tuple" from c2) (by decide)
    have hlt : i < us.toArray.size := by
      obtain ⟨l, _⟩ := List.getElem?_eq_some_iff.mp hu
      simpa using l
    refine wpAny_pyNext_enum_itemD (Draws.tuple (A := X.A.in1) (I.ok.hd hc) it a ne2 us.toArray) en ⟨hit, p2⟩ hlt ne (by simp [ne, ne3]) fun y h' tk hy out st2 hT _ hk => ?_
    have ey : y = u := by
      have z : us.toArray[i]? = some y := hy
      rw [show us.toArray[i]? = us[i]? by simp] at z
      rw [hu] at z; exact (Option.some.inj z).symm
    subst ey
    refine ⟨_, rfl, wpAny_letOwnedTupleGo_enum (s := { s with heap := h', toks := tk + 1 }) out fun h'' en2 sb => ?_⟩
    have hT2 : h''.get? s.heap.objs.size = some { cls := .type "tuple", data := .seq #[.int i tk, y] } := (sb.2 _ (Nat.ne_of_gt lt1)).trans hT
    have nw : ObjOk X.prog X.w (upd H s.heap.objs.size (.tup [.int (i : Nat), x])) h'' s.heap.objs.size (.tup [.int (i : Nat), x]) :=
      ⟨by show 2 ≤ sizeLine; decide, [.int i tk, y], .cons ⟨_, rfl⟩ (.cons ru .nil), ⟨_, hT2, rfl, _, rfl⟩⟩
    have J : Inv X pins σ (upd H s.heap.objs.size (.tup [.int (i : Nat), x])) { s with heap := h'', toks := tk + 1 } :=
      I.turnedNew (ch := [e, it]) (fun b ob hb q => (sb.2 b (fun z => hb (by simp [z]))).trans (hk b ob (fun z => hb (by simp [z])) (fun z => hb (by simp [z])) q)) hf (Nat.le_refl _) nw
    have hit2 : h''.IsTupleIter it a (i + 1) := by
      obtain ⟨o, g, r⟩ := st2.1
      exact ⟨o, (sb.2 it (Ne.symm ne)).trans g, r⟩
    refine ⟨.ref s.heap.objs.size, _, J, rfl, ⟨_, x, rfl, I.hok.fresh (Nat.le_refl _), rfl, fun ys hy => by rw [I.tuple_inj hy hq]; exact hx⟩, ⟨⟨y, ?_⟩, hit2, ne⟩, fun b hb => ?_⟩
    · rw [show ((i + 1 : Nat) : Int) = (i : Int) + 1 by omega]; exact en2
    · have lt : b < s.heap.objs.size := by
        rcases (show b = e ∨ b = it by simpa using hb) with z | z
        · rw [z]; exact lt1
        · rw [z]; exact lt2
      rw [upd_ne (Nat.ne_of_lt lt)]
      exact (hf b hb).1
  done := by
    intro X hP hw hK hc i pins s σ H E I hf st hg
    subst hP hw hK
    obtain ⟨⟨old, en⟩, hit, ne⟩ := st
    obtain ⟨xs, hq, hx⟩ := hg
    obtain ⟨us, rv, p, _⟩ := I.tuple hq
    have p2 : s.heap.IsTuple a us.toArray := p
    have len := rv.length
    obtain ⟨f0, f1, f2, f3, f4, f5⟩ := hf it (by simp)
    have hT : s.TypeIs (.ref e) "enumerate" := ⟨_, en, rfl⟩
    unfold pyNext
    refine wpAny_bind (wpAny_attempt (wpAny_callSpecial?_slot (name := Str.ofString "__next__") hT F.slot_enumerate_next (wpAny_call_entry F.slot_enumerate_next hT F.entry_enumerate_next ?_ (F.args_enumerate_next_1 _))))
    show wpAny _ _ (field (.ref e) 2 >>= _) _ _ _
    refine wpAny_bind (wpAny_field en rfl (x := .ref it) rfl ?_)
    refine wpAny_bind (wpAny_nextOf_tuple_end (I.ok.hd hc) hit p2 (by simp; omega) fun h' x eb hx' => ?_)
    obtain ⟨o, ho, co⟩ := hx'
    refine wpAny_bind (wpAny_isInstance (T := "StopIteration") (b := true) ⟨o, ho, co⟩ isSubtype_stop ?_)
    exact wpAny_pure ⟨rfl, I.turned (t' := s.toks) (fun b o hb q => eb b o hb q) f0 f1 f3 f4 f5⟩
  self := fun A i s Q E st h => let ⟨⟨_, en⟩, _⟩ := st; wpAny_pyIter_enum en h
def iEnumA (K : PySem.W.Frag) (ta : TA) : TI := fun σ H R => ta σ H fun vs H1 => ∃ a xs, vs = [.ref a] ∧ ((SqL K H1 a xs ∧ R (Ite K a) H1) ∨ (SqT K H1 a xs ∧ R (IteT K a) H1))
theorem pi_enumA {X : Cx} {e : Expr} {ta : TA} {p pos tpos : Pos} {elts : List Expr} {kk : Nat} (hg : Gl X "enumerate") (hm : X.mg "enumerate" = none) (ha : PA X [e] ta) (hs : starEach [e] X.env = [(false, eval e X.env)] := by rfl) :
    PI X (.Tuple elts kk tpos) (.Call (.Name "enumerate" p) [e] [] pos) (iEnumA X.K ta) := by
  refine ⟨fun pins s σ H R I h => PyProof.Rows.Call_ (ld_blt I hg hm PyProof.Rows.boot_enumerate (PyProof.Rows.callWith_type1 (thn (ha.run pos pins s σ H _ I h) fun us s1 ⟨vs, H1, I1, r1, q1⟩ => ?_) hs rfl))⟩
  obtain ⟨a, xs, ex, q1⟩ := q1
  subst ex
  obtain ⟨u, eu, r⟩ := Vals.one r1
  subst eu
  cases r
  have fr : ∀ b, b ∈ [s1.heap.objs.size + 1, s1.heap.objs.size] → FpOk X pins H1 b := fun b hb => by
    have le : s1.heap.objs.size ≤ b := by
      rcases (show b = s1.heap.objs.size + 1 ∨ b = s1.heap.objs.size by simpa using hb) with z | z <;> omega
    exact I1.fpOk le (I1.hok.fresh le)
  rcases q1 with ⟨hq, q⟩ | ⟨hq, q⟩
  · obtain ⟨us, rv, p, _⟩ := I1.list hq
    refine call_enumerate_list p.isList fun h' en hit _ hk => wpAny_pyIter_enum en ?_
    exact ⟨s1.heap.objs.size + 1, [s1.heap.objs.size + 1, s1.heap.objs.size], _, _, H1, rfl, I1.kept (t' := s1.toks) hk, turn_enum a (s1.heap.objs.size + 1) s1.heap.objs.size, ⟨⟨.none, en⟩, hit, Nat.succ_ne_self _⟩, fr, q⟩
  · obtain ⟨us, rv, p, _⟩ := I1.tuple hq
    refine call_enumT (show s1.heap.IsTuple a us.toArray from p) fun h' en hit hk => wpAny_pyIter_enum en ?_
    exact ⟨s1.heap.objs.size + 1, [s1.heap.objs.size + 1, s1.heap.objs.size], _, _, H1, rfl, I1.kept (t' := s1.toks) hk, turn_enumT a (s1.heap.objs.size + 1) s1.heap.objs.size, ⟨⟨.none, en⟩, hit, Nat.succ_ne_self _⟩, fr, q⟩
def zEnumA (K : PySem.W.Frag) (g : TG) (tb : TS) (D : Ends) (σ : L2.St) (vs : List V) (H1 : Hp) : Prop := ∃ a xs, vs = [.ref a] ∧ ((SqL K H1 a xs ∧ ∃ W : Nat → Nat → L2.St → Hp → Prop, (∃ m, W 0 m σ H1) ∧ ∀ i m σ H, W i m σ H →
  ((Ite K a).stop i H ∧ D.nx σ H) ∨ ((Ite K a).go i H ∧ ∃ N : L2.St → Hp → Prop, (∀ σ' H', N σ' H' → ∃ m', m' < m ∧ W (i + 1) m' σ' H') ∧ ∀ x H', (Ite K a).yld i H x H' → g x σ H' fun σ2 H2 => tb { D with nx := N, ct := N, bk := D.nx } σ2 H2)) ∨
  (SqT K H1 a xs ∧ ∃ W : Nat → Nat → L2.St → Hp → Prop, (∃ m, W 0 m σ H1) ∧ ∀ i m σ H, W i m σ H →
  ((IteT K a).stop i H ∧ D.nx σ H) ∨ ((IteT K a).go i H ∧ ∃ N : L2.St → Hp → Prop, (∀ σ' H', N σ' H' → ∃ m', m' < m ∧ W (i + 1) m' σ' H') ∧ ∀ x H', (IteT K a).yld i H x H' → g x σ H' fun σ2 H2 => tb { D with nx := N, ct := N, bk := D.nx } σ2 H2)))
section
variable {K : PySem.W.Frag} {σ : L2.St} {H : Hp} {D : Ends} {ta : TA} {g : TG} {tb : TS} {a : Addr} {xs : List V}
theorem z_forEA (k : ta σ H fun vs H1 => zEnumA K g tb D σ vs H1) : tFor (iEnumA K ta) g tb D σ H := k
end

def ddZ (acc : List Int) : List Int → List Int
  | [] => acc
  | x :: xs => ddZ (if acc.any (· == x) then acc else acc ++ [x]) xs
def setN (ns : List Int) : Nat := (ddZ [] ns).length
def tLenSet (K : PySem.W.Frag) (ta : TE) : TE := fun σ H Q => ta σ H fun x H1 => ∃ (l : Addr) (ns : List Int), x = .ref l ∧ SqL K H1 l (ns.map V.int) ∧ ns.length ≤ 4000 ∧ Q (.int (setN ns : Nat)) H1
theorem z_lenSet {K : PySem.W.Frag} {ta : TE} {σ : L2.St} {H : Hp} {Q : VK} (k : ta σ H fun x H1 => ∃ (l : Addr) (ns : List Int), x = .ref l ∧ SqL K H1 l (ns.map V.int) ∧ ns.length ≤ 4000 ∧ Q (.int (setN ns : Nat)) H1) : tLenSet K ta σ H Q := k

abbrev W0 : WX := fun _ _ _ _ => False
theorem passF {X : Cx} : ∀ σ, PassesAt (L2.CX X.prog X.w) X σ (WE W0 σ) := fun σ => passAt takes0 σ
theorem passW {X : Cx} {W : WX} (tk : Takes X W) : ∀ σ, PassesAt (L2.CX X.prog X.w) X σ (WE W σ) := fun σ => passAt tk σ
theorem pass00 {X : Cx} : ∀ σ, PassesAt CX0 X σ (WE W0 σ) := fun σ pins H s e s' I c => pass0 pins σ H s e s' I c
def WdX (T : WX → TS) (N : List Str) (n : Nat) (sp : Sp) : Prop := ∀ (vs : List V) (H : Hp) (Q : VK) (E : XK), sp vs H Q E → vs.length = n ∧ T (fun cls d _ H => E cls d H) { nx := fun _ H' => Q .non H', rt := Q } (start N vs) H
structure DfnX (P : Program) (w : World) (K : PySem.W.Frag) (mg : Str → Option Value) (base : Heap) (k : Nat) (x : Str) (ps : List Str) (sp : Sp) : Prop where
  ex : ∃ (f : Addr) (fd : FuncData), mg x = some (.ref f) ∧ PySem.W.keepIn K (.ref f) = true ∧ Binds K fd ps [] ∧ FnOk P w K mg base (L2.CX P w) k f fd ps sp
inductive Cst where
  | v (x : V)
  | e
def Cst.Is (K : PySem.W.Frag) : Cst → V → Prop
  | .v x, u => u = x
  | .e, u => ∃ T, u = .ref T ∧ ∀ H, SqT K H T []
def gSel (sel : List (Bool × Nat)) {α : Type} (vs mz zs : List α) : List α := vs ++ sel.filterMap fun z => if z.1 then zs[z.2]? else mz[z.2]?
theorem gSel_rel (sel : List (Bool × Nat)) {vs mz zs : List V} {us mv ws : List Value} (h1 : Vals vs us) (h2 : Vals mz mv) (h3 : Vals zs ws) : Vals (gSel sel vs mz zs) (gSel sel us mv ws) := by
  unfold gSel
  refine h1.append ?_
  have one : ∀ {xs : List V} {as : List Value} (i : Nat), Vals xs as → (xs[i]? = none ∧ as[i]? = none) ∨ ∃ x a, xs[i]? = some x ∧ as[i]? = some a ∧ RelV x a := by
    intro xs as i r
    cases e : xs[i]? with
    | none => exact .inl ⟨rfl, Vals.none_of r e⟩
    | some x => obtain ⟨a, ea, ra⟩ := Vals.get r e; exact .inr ⟨x, a, rfl, ea, ra⟩
  induction sel with
  | nil => exact .nil
  | cons z t ih =>
    obtain ⟨b, i⟩ := z
    cases b with
    | true =>
      rcases one i h3 with ⟨e1, e2⟩ | ⟨x, a, e1, e2, r⟩
      · simp only [List.filterMap_cons, if_pos, e1, e2]; exact ih
      · simp only [List.filterMap_cons, if_pos, e1, e2]; exact .cons r ih
    | false =>
      rcases one i h2 with ⟨e1, e2⟩ | ⟨x, a, e1, e2, r⟩
      · simp only [List.filterMap_cons, Bool.false_eq_true, if_false, e1, e2]; exact ih
      · simp only [List.filterMap_cons, Bool.false_eq_true, if_false, e1, e2]; exact .cons r ih
structure MkrK (CX : CXT) (P : Program) (w : World) (K : PySem.W.Frag) (mg : Str → Option Value) (base : Heap) (k : Nat) (C : Addr) (ps : List Str) (sp : Sp) (n : Nat) (ks : List Str) (ms : List Cst) (sel : List (Bool × Nat)) : Prop where
  ex : ∃ (f : Addr) (fd : FuncData) (g : List Value → List Value → List Value) (ds : List V), Mk K C f ∧ All2 (Cst.Is K) ms ds ∧ KBn K fd ps (n + 1) ks g (fun vs zs => gSel sel vs ds zs) ∧ FnOk P w K mg base CX k f fd ps sp
def tMkX (K : PySem.W.Frag) (c : CEnv) (x : Str) (gs : List Str) (sp : Sp) (W : WX) (t : TA) : TE := fun σ H Q => t σ H fun vs H1 => ClsOk K c x gs → ∀ p dx, H1 p = none → H1 dx = none → dx ≠ p →
  sp (.ref p :: vs) (upd (upd H1 dx (.own p)) p (.ins (c.cls x) dx [])) (fun v H2 => v = .non ∧ Q (.ref p) H2) (WE W σ)
def tMkK (K : PySem.W.Frag) (c : CEnv) (x : Str) (gs : List Str) (n m : Nat) (ms : List Cst) (sel : List (Bool × Nat)) (sp : Sp) (W : WX) (t tk : TA) : TE := fun σ H Q => t σ H fun vs H1 => tk σ H1 fun zs H2 => vs.length = n ∧ zs.length = m ∧ (ClsOk K c x gs → ∀ ds, All2 (Cst.Is K) ms ds → ∀ p dx, H2 p = none → H2 dx = none → dx ≠ p →
  sp (gSel sel (.ref p :: vs) ds zs) (upd (upd H2 dx (.own p)) p (.ins (c.cls x) dx [])) (fun v H3 => v = .non ∧ Q (.ref p) H3) (WE W σ))
def tMtX (c : CEnv) (x m : Str) (sp : Sp) (W : WX) (ta : TE) (t : TA) : TE := fun σ H Q => ta σ H fun v H1 => ∃ a dx fs, v = .ref a ∧ H1 a = some (.ins (c.cls x) dx fs) ∧ fs.lookup m = none ∧ t σ H1 fun vs H2 => sp (v :: vs) H2 Q (WE W σ)
structure ExcF (K : PySem.W.Frag) (mg : Str → Option Value) (c : CEnv) (x : Str) : Prop where
  q : PySem.W.excIn K (c.cls x) [.type "ValueError", .type "Exception", .type "BaseException", .type "object"] "ValueError.__new__" = true
  mg : mg x = some (.ref (c.cls x))
  kp : PySem.W.keepIn K (.ref (c.cls x)) = true
  sb : PySem.W.subIn K (.ref (c.cls x)) (.type "BaseException") = some true
  ty : PySem.W.typeIn K (.ref (c.cls x)) = some (.type "type")
def sRaise (c : CEnv) (x : Str) (W : WX) : TS := fun _ σ H => W (.ref (c.cls x)) none σ H
def sTry (K : PySem.W.Frag) (c : CEnv) (x : Str) (ys : List Str) (tb : WX → TS) (ts : TS) (Wo : WX) : TS := fun D σ H =>
  (∀ y ∈ ys, PySem.W.exmOne K (.ref (c.cls y)) (.ref (c.cls x)) = some (SUB y x)) → tb (wOnly K (.ref (c.cls x)) (fun _ _ _ => ts) Wo D) D σ H
section
variable {X : Cx} {c : CEnv} {k n : Nat} {x m : Str} {ps gs : List Str} {sp : Sp} {W : WX} {p pos apos : Pos} {e o : Expr} {es : List Expr} {t tk : TA} {ta : TE}
theorem z_callX (D : DfnX X.prog X.w X.K X.mg X.base k x ps sp) (hx : ∀ σ, PassesAt (L2.CX X.prog X.w) X σ (WE W σ)) (hr : Room k X.A) (hg : Gl X x) (ha : PA X (e :: es) t) (hdb : (x == ("__debug__" : Str)) = false := by decide)
    (he : starEach (e :: es) X.env = (false, eval e X.env) :: starEach es X.env := by rfl) (hpl : (backTo pos (starEach es X.env)).any (·.1) = false := by rfl) : PE X (.Call (.Name x p) (e :: es) [] pos) (tCallS sp (WE W) t) := by
  obtain ⟨f, fd, hm, hk, hb, F⟩ := D.ex
  exact pe_callS F hr hg hm hk hb hx ha hdb he hpl
theorem run_mkS {CX : CXT} {C f : Addr} {fd : FuncData} {ks : List Str} {g : List Value → List Value → List Value} {gV : List V → List V → List V} {E : XK} {pins : List (Addr × Obj)} {σ : L2.St} {H : Hp} {s : Shared} {Q : VK} {us ws : List Value} {vs zs : List V}
    (M : Mk X.K C f) (F : FnOk X.prog X.w X.K X.mg X.base CX k f fd ps sp) (hr : Room (k + 1) X.A) (bind : ∀ s : Shared, X.K.In s.heap → BindsTo s fd ⟨Value.ref (s.heap.objs.size - 1) :: us, ks.zip ws⟩ (ps.zip (g (Value.ref (s.heap.objs.size - 1) :: us) ws)))
    (rel : ∀ q, Vals (gV (V.ref q :: vs) zs) (g (Value.ref q :: us) ws)) (hx : PassesAt CX X σ E) (I : Inv X pins σ H s)
    (h : ∀ q dx, H q = none → H dx = none → dx ≠ q → sp (gV (.ref q :: vs) zs) (upd (upd H dx (.own q)) q (.ins C dx [])) (fun v H2 => v = .non ∧ Q (.ref q) H2) E)
    (bind2 : ∀ (s2 : Shared) (q : Addr), X.K.In s2.heap → BindsTo s2 fd ⟨Value.ref q :: us, ks.zip ws⟩ (ps.zip (g (Value.ref q :: us) ws))) :
    wpAny (model X.prog X.w) X.A (call (.ref C) us (ks.zip ws)) (EP X pins σ Q) X.xe s := by
  have want := h (s.heap.objs.size + 1) s.heap.objs.size (I.hok.fresh (Nat.le_succ _)) (I.hok.fresh (Nat.le_refl _)) (Nat.ne_of_lt (Nat.lt_succ_self _))
  have J := Inv.made (C := C) I
  have go := F.run _ X.stack _ _ ⟨Value.ref (s.heap.objs.size + 1) :: us, ks.zip ws⟩ (g (Value.ref (s.heap.objs.size + 1) :: us) ws) _ _ E (hr.make C us (ks.zip ws)) (J.env0.make C us (ks.zip ws)) (bind2 _ _ J.kIn) (rel _) want
  refine wpAny_call (make_map (f := f) I.kIn M.makes M.init (beq_iff_eq.mp M.fn) (codeAny_mono go fun r s' hr' => ?_))
  match r, hr' with
  | .error e, hr' => exact hx pins _ _ e s' J hr'
  | .ok (.ret u), hr' =>
    obtain ⟨v, H', I3, rv, ev, q3⟩ := J.after hr'
    subst ev
    exact ⟨rv, ⟨V.ref (s.heap.objs.size + 1), H', I3, rfl, q3⟩⟩
  | .ok .next, hr' => exact hr'.elim
  | .ok .brk, hr' => exact hr'.elim
  | .ok .cont, hr' => exact hr'.elim
theorem z_makeK {CX : CXT} {ks : List Str} {kws : List Keyword} {ms : List Cst} {sel : List (Bool × Nat)} {nk : Nat} (CF : ClsF X.K X.mg c x gs) (M : MkrK CX X.prog X.w X.K X.mg X.base k (c.cls x) ps sp n ks ms sel) (hx : ∀ σ, PassesAt CX X σ (WE W σ)) (hr : Room (k + 1) X.A) (hg : Gl X x) (ha : PA X (e :: es) t) (hkw : PK X kws tk)
    (hnk : ks.length = nk := by rfl) (hall : (backToKw pos (keywordEach kws X.env)).all (·.1.isSome) = true := by rfl) (hks : (backToKw pos (keywordEach kws X.env)).filterMap (·.1) = ks := by rfl) (hdb : (x == ("__debug__" : Str)) = false := by decide)
    (he : starEach (e :: es) X.env = (false, eval e X.env) :: starEach es X.env := by rfl) (hpl : ((backTo pos (starEach (e :: es) X.env)).any (·.1) || (backToKw pos (keywordEach kws X.env)).any (·.1.isNone)) = false := by rfl) :
    PE X (.Call (.Name x p) (e :: es) kws pos) (tMkK X.K c x gs n nk ms sel sp W t tk) := by
  subst hnk
  obtain ⟨f, fd, g, ds, hM, hds, hb, F⟩ := M.ex
  refine ⟨fun pins s σ H Q I h => ?_⟩
  refine wpAny_Call_Name_kw (ld_glob I hg CF.mg ?_ hdb)
  refine PySem.W.callWith_KW (h₀ := X.base) I.ok.mod.kin hM.kp hall (thn (ha.run pos pins s σ H _ I h) fun us s1 ⟨vs, H1, I1, r, q⟩ => ?_) hpl he
  refine thn (hkw.run pos pins s1 σ H1 _ I1 q) fun ws s2 ⟨zs, H2, I2, rz, l1, l2, q2⟩ => ⟨I2.kIn, ?_⟩
  rw [hks]
  have n1 : ∀ a : Addr, (Value.ref a :: us).length = n + 1 := fun a => by rw [List.length_cons, ← r.length, l1]
  exact run_mkS (g := g) (gV := fun vs zs => gSel sel vs ds zs) hM F hr (fun s3 ki => hb.to s3 _ ws ki (n1 _) (rz.length.symm.trans l2)) (fun a => hb.rel (.cons rfl r) rz) (hx σ) I2 (q2 CF.ok ds hds) (fun s3 a ki => hb.to s3 _ ws ki (n1 _) (rz.length.symm.trans l2))
theorem z_raise {j : Nat} {p2 pos' : Pos} (hc : X.calm = true) (E : ExcF X.K X.mg c x) (tk : Takes X W) (hg : Gl X x) (hdb : (x == ("__debug__" : Str)) = false := by decide) : PS X (.Raise (some (.Call (.Name x p) [.Constant (.str m) j p2] [] pos)) none pos') (sRaise c x W) :=
  ps_raise hc tk (pmk_own F.excBase_ValueError E.q E.mg E.kp (raises_own E.sb E.ty) hg hdb)
end
section
variable {K : PySem.W.Frag} {c : CEnv} {x y m : Str} {gs : List Str} {H : Hp} {Q : VK} {σ : L2.St} {t tk : TA} {ta : TE} {sp : Sp} {W : WX} {D : Ends}
theorem z_calS (k : t σ H fun vs H1 => sp vs H1 Q (WE W σ)) : tCallS sp (WE W) t σ H Q := k
theorem z_mkX (k : t σ H fun vs H1 => ClsOk K c x gs → ∀ p dx, H1 p = none → H1 dx = none → dx ≠ p → sp (.ref p :: vs) (upd (upd H1 dx (.own p)) p (.ins (c.cls x) dx [])) (fun v H2 => v = .non ∧ Q (.ref p) H2) (WE W σ)) : tMkX K c x gs sp W t σ H Q := k
theorem z_mkK {n nk : Nat} {ms : List Cst} {sel : List (Bool × Nat)} (k : t σ H fun vs H1 => tk σ H1 fun zs H2 => vs.length = n ∧ zs.length = nk ∧ (ClsOk K c x gs → ∀ ds, All2 (Cst.Is K) ms ds → ∀ p dx, H2 p = none → H2 dx = none → dx ≠ p →
  sp (gSel sel (.ref p :: vs) ds zs) (upd (upd H2 dx (.own p)) p (.ins (c.cls x) dx [])) (fun v H3 => v = .non ∧ Q (.ref p) H3) (WE W σ))) : tMkK K c x gs n nk ms sel sp W t tk σ H Q := k
theorem z_mtX (k : ta σ H fun v H1 => ∃ a dx fs, v = .ref a ∧ H1 a = some (.ins (c.cls x) dx fs) ∧ fs.lookup m = none ∧ t σ H1 fun vs H2 => sp (v :: vs) H2 Q (WE W σ)) : tMtX c x m sp W ta t σ H Q := k
theorem z_rse (k : W (.ref (c.cls x)) none σ H) : sRaise c x W D σ H := k
theorem z_tr {ys : List Str} {tb : WX → TS} {ts : TS} {Wo : WX} (k : (∀ y ∈ ys, PySem.W.exmOne K (.ref (c.cls y)) (.ref (c.cls x)) = some (SUB y x)) → tb (wOnly K (.ref (c.cls x)) (fun _ _ _ => ts) Wo D) D σ H) : sTry K c x ys tb ts Wo D σ H := k
end
section
variable {K : PySem.W.Frag} {H : Hp} {σ : L2.St}
end
theorem dec_rn {a : Addr} : decide (V.ref a = V.non) = false := decide_eq_false (fun z => by cases z)
theorem dec_in {a : Int} : decide (V.int a = V.non) = false := decide_eq_false (fun z => by cases z)
theorem dec_sn {a : Str} : decide (V.str a = V.non) = false := decide_eq_false (fun z => by cases z)
theorem dec_bn {a : Bool} : decide (V.bl a = V.non) = false := decide_eq_false (fun z => by cases z)
def tCstT (K : PySem.W.Frag) (xs : List V) : TE := fun σ H Q => ∀ T, (∀ H, SqT K H T xs) → Q (.ref T) H
theorem z_gtup {X : Cx} {x : Str} {xs : List V} {pos : Pos} (hm : ∃ T, X.mg x = some (.ref T) ∧ ∀ H, SqT X.K H T xs) (hg : Gl X x) (hd : (x == ("__debug__" : Str)) = false := by decide) : PE X (.Name x pos) (tCstT X.K xs) := by
  obtain ⟨T, hm, hs⟩ := hm
  exact ⟨fun pins s σ H Q I h => ld_glob I hg hm ⟨.ref T, H, I, rfl, h T hs⟩ hd⟩
theorem z_cstT {K : PySem.W.Frag} {xs : List V} {σ : L2.St} {H : Hp} {Q : VK} (k : ∀ T, (∀ H, SqT K H T xs) → Q (.ref T) H) : tCstT K xs σ H Q := k
theorem sqT_lit {K : PySem.W.Frag} {T : Addr} {dd : Option Addr} {its : List Value} {n : Nat} {sl : Array (Option Value)} {xs : List V} (l : K.lookup T = some ⟨.type "tuple", dd, .seq its.toArray n, sl⟩) (h : Vals xs its) (hs : xs.length ≤ 1000) : ∀ H, SqT K H T xs := fun H =>
  .inr ⟨_, _, _, l, rfl, rfl, by have := h.length; simp; exact Nat.le_trans (by omega : its.length ≤ 1000) (by decide), by simpa using h⟩
local macro_rules | `(tactic| walk_at "z") => `(tactic| with_reducible first
  | refine z_calS ?_ | refine z_mkX ?_ | refine z_mkK ?_ | refine z_mtX ?_ | refine z_rse ?_ | (refine z_tr ?_; intro _) | (refine z_cstT ?_; intro _ _) | refine z_forEA ?_ | refine z_lenSet ?_)
local macro_rules | `(tactic| walk_at "zy") => `(tactic| repeat (first | walk_at "z" | walk_at "zd" | rw [decide_eq_true rfl] | rw [dec_rn] | rw [dec_in] | rw [dec_sn] | rw [dec_bn]))

inductive DV where
  | v (x : V)
  | t (xs : List V)
def DV.Is (K : PySem.W.Frag) : DV → V → Prop
  | .v x, u => u = x
  | .t xs, u => ∃ T, u = .ref T ∧ ∀ H, SqT K H T xs
structure KD (K : PySem.W.Frag) (w : World) (mg : Str → Option Value) (x : Str) (l : List (Str × DV)) : Prop where
  ex : ∃ (d : Addr) (es : Array DictEntry) (n : Nat), mg x = some (.ref d) ∧ KDict K w d es n ∧ ∀ z : Str, (l.lookup z = none → PySem.W.nsIn K d z = some none) ∧ ∀ dv, l.lookup z = some dv → ∃ u v, PySem.W.nsIn K d z = some (some u) ∧ RelV v u ∧ dv.Is K v
def tKin (l : List (Str × DV)) (ta : TE) : TE := fun σ H Q => ta σ H fun x H1 => ∃ z, x = .str z ∧ Q (.bl (l.lookup z).isSome) H1
def tKout (l : List (Str × DV)) (ta : TE) : TE := fun σ H Q => ta σ H fun x H1 => ∃ z, x = .str z ∧ Q (.bl (!(l.lookup z).isSome)) H1
def tKix (K : PySem.W.Frag) (l : List (Str × DV)) (ta : TE) : TE := fun σ H Q => ta σ H fun x H1 => ∃ z dv, x = .str z ∧ l.lookup z = some dv ∧ ∀ v, dv.Is K v → Q v H1
section
variable {X : Cx} {x : Str} {l : List (Str × DV)} {p pos : Pos} {e : Expr} {te : TE}
theorem kd_get {K : PySem.W.Frag} {d : Addr} (h : ∀ z : Str, (l.lookup z = none → PySem.W.nsIn K d z = some none) ∧ ∀ dv, l.lookup z = some dv → ∃ u v, PySem.W.nsIn K d z = some (some u) ∧ RelV v u ∧ dv.Is K v) (z : Str) : ∃ r, PySem.W.nsIn K d z = some r ∧ r.isSome = (l.lookup z).isSome := by
  cases q : l.lookup z with
  | none => exact ⟨none, (h z).1 q, rfl⟩
  | some dv => obtain ⟨u, _, e, _⟩ := (h z).2 dv q; exact ⟨some u, e, rfl⟩
theorem kout_eq {d : Addr} {σ : L2.St} {H : Hp} {Q : VK} {K : PySem.W.Frag} (hz : ∀ z : Str, (l.lookup z = none → PySem.W.nsIn K d z = some none) ∧ ∀ dv, l.lookup z = some dv → ∃ u v, PySem.W.nsIn K d z = some (some u) ∧ RelV v u ∧ dv.Is K v) (h : tKout l te σ H Q) :
    tOp (fun x y H Q => ∃ (z : Str) (r : Option Value), x = .str z ∧ y = .ref d ∧ PySem.W.nsIn K d z = some r ∧ Q (.bl (!r.isSome)) H) te (tC (.ref d)) σ H Q := by
  have q : (fun (y : V) (H1 : Hp) => ∃ z, y = .str z ∧ Q (.bl (!(l.lookup z).isSome)) H1) = fun y H1 => ∃ (z : Str) (r : Option Value), y = .str z ∧ V.ref d = .ref d ∧ PySem.W.nsIn K d z = some r ∧ Q (.bl (!r.isSome)) H1 := by
    funext y H1
    refine propext ⟨fun ⟨z, ey, q⟩ => ?_, fun ⟨z, r, ey, _, er, q⟩ => ?_⟩
    · obtain ⟨r, er, es⟩ := kd_get hz z
      exact ⟨z, r, ey, rfl, er, by rw [es]; exact q⟩
    · obtain ⟨r', er', es⟩ := kd_get hz z
      rw [er] at er'; cases er'
      exact ⟨z, ey, by rw [← es]; exact q⟩
  show te σ H _
  exact (congrArg (te σ H) q) ▸ h
theorem z_koutP (D : KD X.K X.w X.mg x l) (he : PE X e te) (hg : Gl X x) (hd : (x == ("__debug__" : Str)) = false := by decide) : PT X (.Compare e [.NotIn] [.Name x p] pos) (tTest (tKout l te)) := by
  obtain ⟨d, es, n, hm, kd, hz⟩ := D.ex
  have a := pt_cmpR (pos := pos) (op_notIn_kd kd) he (pe_glob (v := .ref d) (pos := p) hg hm rfl hd) (by rfl)
  exact ⟨fun pins s σ H Q I h => a.run pins s σ H Q I (kout_eq hz h)⟩
end
theorem find_lit {K : PySem.W.Frag} {es : List DictEntry} {l : List (Str × DV)} (r : All2 (fun (e : DictEntry) (kv : Str × DV) => (∃ t, e.key = .str kv.1 t) ∧ ∃ v, RelV v e.val ∧ kv.2.Is K v) es l) (z : Str) :
    es.any (·.refKey) = false ∧ (l.lookup z = none → es.find? (·.key.isStr z) = none) ∧ ∀ dv, l.lookup z = some dv → ∃ e v, es.find? (·.key.isStr z) = some e ∧ RelV v e.val ∧ dv.Is K v := by
  induction r with
  | nil => exact ⟨rfl, fun _ => rfl, fun dv h => by cases h⟩
  | @cons e kv es l h _ ih =>
    obtain ⟨⟨t, ek⟩, v, rv, iv⟩ := h
    obtain ⟨k, dv0⟩ := kv
    have b : e.key.isStr z = (z == k) := by
      rw [ek]
      first
        | rfl
        | (rw [Bool.eq_iff_iff]; simp [Value.isStr]; exact ⟨fun h => h.symm, fun h => h.symm⟩)
        | (simp [Value.isStr, eq_comm])
    refine ⟨by rw [List.any_cons, ih.1, Bool.or_false]; unfold DictEntry.refKey; rw [ek], ?_, ?_⟩
    · intro h
      rw [List.lookup_cons] at h
      rw [List.find?_cons, b]
      cases q : z == k with
      | true => rw [q] at h; cases h
      | false => rw [q] at h; exact ih.2.1 h
    · intro dv h
      rw [List.lookup_cons] at h
      rw [List.find?_cons, b]
      cases q : z == k with
      | true => rw [q] at h; cases h; exact ⟨e, v, rfl, rv, iv⟩
      | false => rw [q] at h; exact ih.2.2 dv h
theorem kd_of {K : PySem.W.Frag} {w : World} {mg : Str → Option Value} {x : Str} {d : Addr} {es : List DictEntry} {n : Nat} {l : List (Str × DV)} (hm : mg x = some (.ref d)) (at_ : K.lookup d = some ⟨.type "dict", none, .dict es.toArray n, #[]⟩) (lit : PySem.W.KeysLit w.params es) (low : (d == sysModules) = false)
    (r : All2 (fun (e : DictEntry) (kv : Str × DV) => (∃ t, e.key = .str kv.1 t) ∧ ∃ v, RelV v e.val ∧ kv.2.Is K v) es l) : KD K w mg x l := by
  refine ⟨d, es.toArray, n, hm, ⟨at_, by simpa using lit, low⟩, fun z => ?_⟩
  obtain ⟨h1, h2, h3⟩ := find_lit r z
  unfold PySem.W.nsIn
  rw [at_]
  dsimp only
  refine ⟨fun q => ?_, fun dv q => ?_⟩
  · have e := h2 q
    simp only [e, h1]
    rfl
  · obtain ⟨e, v, e1, rv, iv⟩ := h3 dv q
    refine ⟨e.val, v, ?_, rv, iv⟩
    simp only [e1]
section
variable {K : PySem.W.Frag} {l : List (Str × DV)} {ta te : TE} {σ : L2.St} {H : Hp} {Q : VK} {g : TG} {tb : TS} {D : Ends} {x : Str} {b : Bool}
theorem z_kinT (k : ta σ H fun x H1 => ∃ z, x = .str z ∧ Q (.bl (l.lookup z).isSome) H1) : tKin l ta σ H Q := k
theorem z_koutT (k : ta σ H fun x H1 => ∃ z, x = .str z ∧ Q (.bl (!(l.lookup z).isSome)) H1) : tKout l ta σ H Q := k
theorem z_kixT (k : ta σ H fun x H1 => ∃ z dv, x = .str z ∧ l.lookup z = some dv ∧ ∀ v, dv.Is K v → Q v H1) : tKix K l ta σ H Q := k
theorem z_kst {P : Str → Prop} {x : Str} (k : P x) : ∃ z, V.str x = .str z ∧ P z := ⟨x, rfl, k⟩
def zForTx (g : TG) (tb : TS) (D : Ends) (σ : L2.St) (v : V) (H1 : Hp) : Prop := ∃ x, v = .str x ∧ ∃ W : Nat → Nat → L2.St → Hp → Prop, (∃ m, W 0 m σ H1) ∧ ∀ i m σ H, W i m σ H →
  ((Its x).stop i H ∧ D.nx σ H) ∨ ((Its x).go i H ∧ ∃ N : L2.St → Hp → Prop, (∀ σ' H', N σ' H' → ∃ m', m' < m ∧ W (i + 1) m' σ' H') ∧ ∀ y H', (Its x).yld i H y H' → g y σ H' fun σ2 H2 => tb { D with nx := N, ct := N, bk := D.nx } σ2 H2)
theorem z_forTx (k : te σ H fun v H1 => zForTx g tb D σ v H1) : tFor (iStr te) g tb D σ H := k
end
def hMany (c : CEnv) (l : List (Str × TS)) : List (Value × (Addr → Value → Option Addr → TS)) := l.map fun z => (.ref (c.cls z.1), fun _ _ _ => z.2)
def sTryM (K : PySem.W.Frag) (c : CEnv) (l : List (Str × TS)) (ys : List Str) (tb : WX → TS) (Wo : WX) : TS := fun D σ H =>
  (∀ x ∈ l.map (·.1), ∀ y ∈ ys, PySem.W.exmOne K (.ref (c.cls y)) (.ref (c.cls x)) = some (SUB y x)) → tb (wMany K Wo D (hMany c l)) D σ H
theorem z_trM {K : PySem.W.Frag} {c : CEnv} {l : List (Str × TS)} {ys : List Str} {tb : WX → TS} {Wo : WX} {D : Ends} {σ : L2.St} {H : Hp} (k : (∀ x ∈ l.map (·.1), ∀ y ∈ ys, PySem.W.exmOne K (.ref (c.cls y)) (.ref (c.cls x)) = some (SUB y x)) → tb (wMany K Wo D (hMany c l)) D σ H) : sTryM K c l ys tb Wo D σ H := k
theorem z_asgG {K : PySem.W.Frag} {te : TE} {n : Nat} {gs : TGs} {D : Ends} {σ : L2.St} {H : Hp} (k : te σ H fun x H1 => gTup K n gs x σ H1 D.nx) : tAsg te (gTup K n gs) D σ H := k
def uOrd : List V → Hp → VK → Prop := fun xs H Q => ∃ x, xs = [.str x] ∧ x.length = 1 ∧ Q (.int (x.cps.getD 0 0 : Nat)) H
theorem z_ord {c : Nat} {H : Hp} {Q : VK} (k : Q (.int (c : Nat)) H) : uOrd [.str ⟨#[c]⟩] H Q := ⟨_, rfl, rfl, k⟩
theorem z_isss {K : PySem.W.Frag} {H : Hp} {Q : VK} {x : Str} (k : Q (.bl true) H) : uIsi K [.str x, .ty "str"] H Q := ⟨_, _, true, .ty _, .base (.str x), rfl, k⟩
theorem z_issb {K : PySem.W.Frag} {H : Hp} {Q : VK} {x : Str} (k : Q (.bl false) H) : uIsi K [.str x, .ty "bool"] H Q := ⟨_, _, false, .ty _, .base (.str x), rfl, k⟩
theorem z_isis {K : PySem.W.Frag} {H : Hp} {Q : VK} {i : Int} (k : Q (.bl false) H) : uIsi K [.int i, .ty "str"] H Q := ⟨_, _, false, .ty _, .base (.int i), rfl, k⟩
theorem z_isbs {K : PySem.W.Frag} {H : Hp} {Q : VK} {b : Bool} (k : Q (.bl false) H) : uIsi K [.bl b, .ty "str"] H Q := ⟨_, _, false, .ty _, .base (.bl b), rfl, k⟩
def zLcTx (g : TG) (tt : TT) (te : TE) (vs : List Nat) (σ : L2.St) (v : V) (H1 : Hp) (Q : VK) : Prop := ∃ x, v = .str x ∧ ∀ C, H1 C = none → ∃ W : Nat → Nat → Hp → Prop, (∃ m, W 0 m (upd H1 C (.lst []))) ∧ ∀ i m H, W i m H →
  ((Its x).stop i H ∧ Q (.ref C) H) ∨ ((Its x).go i H ∧ ∃ Nx : Hp → Prop, (∀ H', Nx H' → ∃ m', m' < m ∧ W (i + 1) m' H') ∧ ∀ y H', (Its x).yld i H y H' → g y (wipe σ vs) H' fun σ2 H2 => wipe σ2 vs = wipe σ vs ∧ tt σ2 H2 fun b H3 =>
    if b = true then te σ2 H3 fun z H4 => ∃ acc, H4 C = some (.lst acc) ∧ acc.length < sizeLine ∧ Nx (upd H4 C (.lst (acc ++ [z]))) else Nx H3)
theorem z_lcTx {ti te : TE} {g : TG} {tt : TT} {vs : List Nat} {σ : L2.St} {H : Hp} {Q : VK} (k : ti σ H fun v H1 => zLcTx g tt te vs σ v H1 Q) : tLc (iStr ti) g tt te vs σ H Q := k
local macro_rules | `(tactic| walk_at "z") => `(tactic| with_reducible first
  | refine z_kinT ?_ | refine z_koutT ?_ | refine z_kixT ?_ | refine z_kst ?_ | refine z_forTx ?_ | refine z_asgG ?_ | (refine z_trM ?_; intro _) | refine z_ord ?_ | refine z_isss ?_ | refine z_issb ?_ | refine z_isis ?_ | refine z_isbs ?_ | refine z_lcTx ?_)

section
variable {X : Cx} {c : CEnv} {k : Nat} {x m : Str} {ps gs : List Str} {sp : Sp} {W : WX} {p pos apos : Pos} {e o : Expr} {es : List Expr} {t tk : TA} {ta : TE}
end
def sRaiseA (c : CEnv) (x : Str) (te : TE) (W : WX) : TS := fun _ σ H => te σ H fun _ H1 => W (.ref (c.cls x)) none σ H1
theorem z_rsa {c : CEnv} {x : Str} {te : TE} {W : WX} {D : Ends} {σ : L2.St} {H : Hp} (k : te σ H fun _ H1 => W (.ref (c.cls x)) none σ H1) : sRaiseA c x te W D σ H := k
local macro_rules | `(tactic| walk_at "z") => `(tactic| with_reducible first
  | refine z_rsa ?_)

namespace ZN
open PySem PySem.Spec PyProof.Rows PySem.SeqAt Builtin
section
variable {prog : Program} {w : World} {A : Around} {E : Value → Shared → Prop} {s : Shared} {K : PySem.W.Frag} {x C L f : Addr} {ox : Obj} {od : Option Obj} {h₀ : Heap} {m : Str → Option Value} {b tb : Value}
end
end ZN
def RTy (K : PySem.W.Frag) (c : CEnv) (x : Str) (H : Hp) (v : V) : Prop :=
  (∃ b y dy gs, v = .ref b ∧ H b = some (.ins (c.cls y) dy gs) ∧ (y = x ∨ PySem.W.subIn K (.ref (c.cls y)) (.ref (c.cls x)) = some false)) ∨ v = .non ∨ (∃ i, v = .int i) ∨ (∃ b, v = .bl b) ∨ (∃ s, v = .str s) ∨ (∃ b xs, v = .ref b ∧ SqT K H b xs) ∨ (∃ b xs, v = .ref b ∧ SqL K H b xs)
theorem RTy.own {K : PySem.W.Frag} {c : CEnv} {x : Str} {H : Hp} {b dy : Addr} {gs : List (Str × V)} (h : H b = some (.ins (c.cls x) dy gs)) : RTy K c x H (.ref b) := .inl ⟨b, x, dy, gs, rfl, h, .inl rfl⟩
theorem RTy.non {K : PySem.W.Frag} {c : CEnv} {x : Str} {H : Hp} : RTy K c x H .non := .inr (.inl rfl)
theorem RTy.int {K : PySem.W.Frag} {c : CEnv} {x : Str} {H : Hp} {i : Int} : RTy K c x H (.int i) := .inr (.inr (.inl ⟨i, rfl⟩))
theorem RTy.tup {K : PySem.W.Frag} {c : CEnv} {x : Str} {H : Hp} {b : Addr} {xs : List V} (h : SqT K H b xs) : RTy K c x H (.ref b) := .inr (.inr (.inr (.inr (.inr (.inl ⟨b, xs, rfl, h⟩)))))
theorem RTy.lst {K : PySem.W.Frag} {c : CEnv} {x : Str} {H : Hp} {b : Addr} {xs : List V} (h : SqL K H b xs) : RTy K c x H (.ref b) := .inr (.inr (.inr (.inr (.inr (.inr ⟨b, xs, rfl, h⟩)))))
section
variable {X : Cx} {c : CEnv} {k : Nat} {x : Str} {ps gs : List Str} {sp : Sp}
theorem z_fldH {K : PySem.W.Frag} {c : CEnv} {x f : Str} {gs : List Str} {H : Hp} {Q : VK} {p dx : Addr} {fs : List (Str × V)} {v : V} (h : H p = some (.ins (c.cls x) dx fs)) (ok : ClsOk K c x gs) (l : fs.lookup f = some v) (n : gs.contains f = true) (k : Q v H) : zFld K f (.ref p) H Q := z_fld ok h l n k
theorem z_setH {K : PySem.W.Frag} {c : CEnv} {x f : Str} {gs : List Str} {H : Hp} {p dx : Addr} {fs : List (Str × V)} {N : Hp → Prop} {y : V} (h : H p = some (.ins (c.cls x) dx fs)) (ok : ClsOk K c x gs) (n : gs.contains f = true) (l : fs.length < 1000) (k : N (upd H p (.ins (c.cls x) dx (putF f y fs)))) : zSet K f y (.ref p) H N := z_set ok h n l k
end

local macro_rules | `(tactic| walk_at "z") => `(tactic| with_reducible first
  | ((show zFld _ _ _ _ _); refine z_fldH (by walk_at "lk") (by assumption) (by with_unfolding_all rfl) (by with_unfolding_all rfl) ?_)
  | ((show zSet _ _ _ _ _ _); refine z_setH (by walk_at "lk") (by assumption) (by with_unfolding_all rfl) (by with_unfolding_all exact of_decide_eq_true rfl) ?_))

def uStr : List V → Hp → VK → Prop := fun vs H Q => match vs with
  | [.int i] => i.natAbs.log2 < 1920 ∧ Q (.str (toString i)) H
  | [.str x] => Q (.str x) H
  | _ => False
theorem call_uStr {X : Cx} : CallR X (.type "str") uStr := by
  intro pins s σ H vs us Q I r h
  rcases vs with _ | ⟨x, _ | ⟨y, t⟩⟩
  · exact h.elim
  · cases x <;> first | exact h.elim | skip
    · exact call_str_int pins s σ H _ _ Q I r ⟨_, rfl, h⟩
    · exact SkE.call_str_str pins s σ H _ _ Q I r ⟨_, rfl, h⟩
  · cases x <;> exact h.elim
open Classical in
noncomputable def hid (H : Hp) (ps : List Addr) : Hp := fun a => if a ∈ ps ∨ ∃ qs, H a = some (.tbl qs) then none else H a
def Nt (o : HO) : Prop := ∀ qs, o ≠ .tbl qs
def Pl (o : HO) : Prop := (∀ qs, o ≠ .tbl qs) ∧ ∀ f, o ≠ .ext f
def Occ (H : Hp) (ps : List Addr) : Prop := ∀ p ∈ ps, ∃ o, H p = some o ∧ Pl o
section
variable {K : PySem.W.Frag} {H H' : Hp} {p q : Addr} {o : HO} {ps qs : List Addr}
theorem hid_some {a : Addr} (e : hid H ps a = some o) : a ∉ ps ∧ H a = some o ∧ Nt o := by
  unfold hid at e
  split at e
  · cases e
  · rename_i h
    exact ⟨fun z => h (.inl z), e, fun qs z => h (.inr ⟨qs, by rw [e, z]⟩)⟩
theorem hid_in {a : Addr} (h : a ∈ ps) : hid H ps a = none := by unfold hid; rw [if_pos (.inl h)]
theorem hid_lk {a : Addr} (h : a ∉ ps) (e : H a = some o) (n : Nt o := by intro qs z; cases z) : hid H ps a = some o := by
  unfold hid
  rw [if_neg (fun z => ?_)]
  · exact e
  · rcases z with z | ⟨qs, z⟩
    · exact h z
    · rw [e] at z; cases z; exact n _ rfl
theorem hid_sub (h : ∀ a ∈ ps, a ∈ qs) : Same (hid H qs) (hid H ps) := fun a o e => by
  obtain ⟨h1, h2, h3⟩ := hid_some e
  exact hid_lk (fun z => h1 (h a z)) h2 h3
theorem hid_le : Same (hid H ps) H := fun a o e => (hid_some e).2.1
theorem hid_same (s : Same H H') : Same (hid H ps) (hid H' ps) := fun a o e => by
  obtain ⟨h1, h2, h3⟩ := hid_some e
  exact hid_lk h1 (s a o h2) h3
theorem hid_put (h : p ∈ ps) : hid (upd H p o) ps = hid H ps := by
  funext a
  by_cases c : a ∈ ps
  · rw [hid_in c, hid_in c]
  · have : upd H p o a = H a := upd_ne (fun z => c (z ▸ h))
    unfold hid
    rw [this]
theorem hid_new (h : H q = none) : Same (hid H ps) (hid (upd H q o) ps) := hid_same (Same.new h (Same.refl H))
theorem hid_of (h : H p = none) (s : Same (hid H ps) (hid H' ps)) : Same (hid H ps) (hid H' (p :: ps)) := fun a u e => by
  obtain ⟨h1, h2, h3⟩ := hid_some (s a u e)
  refine hid_lk (fun z => ?_) h2 h3
  rcases List.mem_cons.mp z with z | z
  · subst z; have := (hid_some e).2.1; rw [h] at this; cases this
  · exact h1 z
theorem hid_ofS (h : H p = none) (s : Same H H') : Same (hid H ps) (hid H' (p :: ps)) := hid_of h (hid_same s)
theorem Occ.nil : Occ H [] := fun _ h => by cases h
theorem Occ.cons (h : H p = some o) (t : Occ H ps) (n : Pl o := by exact ⟨fun _ z => (nomatch z), fun _ z => (nomatch z)⟩) : Occ H (p :: ps) := fun a ha => by
  rcases List.mem_cons.mp ha with rfl | ha
  · exact ⟨o, h, n⟩
  · exact t a ha
theorem Occ.same (s : Same H H') (h : Occ H ps) : Occ H' ps := fun a ha => (h a ha).imp fun _ e => ⟨s _ _ e.1, e.2⟩
theorem Occ.put (h : Occ H ps) (n : Pl o := by exact ⟨fun _ z => (nomatch z), fun _ z => (nomatch z)⟩) : Occ (upd H p o) ps := fun a ha => by
  by_cases c : a = p
  · subst c; exact ⟨o, upd_same, n⟩
  · obtain ⟨u, e, e2⟩ := h a ha; exact ⟨u, lk_ne c e, e2⟩
theorem Occ.no (h : Occ H ps) (hq : H q = none) : q ∉ ps := fun z => by obtain ⟨u, e, _⟩ := h q z; rw [hq] at e; cases e
def Fre (H : Hp) (a : Addr) : Prop := ∀ o, Nt o → H a ≠ some o
theorem Fre.of (h : H p = none) : Fre H p := fun o _ e => by rw [h] at e; cases e
theorem Occ.noF (h : Occ H ps) (hq : Fre H q) : q ∉ ps := fun z => by obtain ⟨u, e, n⟩ := h q z; exact hq u n.1 e
theorem tabs_put {T : List (Addr × Str)} {u : HO} (h : H p = some u) (n : Pl u) (t : LamX.Tabs T H) : LamX.Tabs T (upd H p o) := fun q hq => by
  obtain ⟨ps, h1, h2, h3⟩ := t q hq
  refine ⟨ps, lk_ne (fun z => ?_) h1, h2, fun pos cv hc => ?_⟩
  · rw [← z, h1] at h; cases h; exact n.1 _ rfl
  · obtain ⟨c, e1, e2⟩ := h3 pos cv hc
    refine ⟨c, e1, lk_ne (fun z => ?_) e2⟩
    rw [← z, e2] at h; cases h; exact n.2 _ rfl
theorem tabs_free {T : List (Addr × Str)} (h : H p = none) (t : LamX.Tabs T H) : LamX.Tabs T (upd H p o) := t.ext (Same.new h (Same.refl H))
end

inductive Da where
  | non | st | bl (b : Bool) | int (i : Int) | str (x : Str) | ty (n : String)
  | tup (l : List Da) | lst (l : List Da) | ins (x : Str) (ks : List Str) (l : List Da)
instance : Inhabited Da := ⟨.non⟩
def isStrV : V → Bool | .str _ => true | _ => false
def isIntV : V → Bool | .int _ => true | _ => false
def homV (xs : List V) : Bool := xs.all isStrV || xs.all isIntV
def SqD (K : PySem.W.Frag) (G : Hp) (a : Addr) (xs : List V) : Prop := G a = some (.tup xs) ∨ (SqT K G a xs ∧ homV xs = true)
theorem SqD.sq {K : PySem.W.Frag} {G : Hp} {a : Addr} {xs : List V} (h : SqD K G a xs) : SqT K G a xs := h.elim SqT.of (·.1)
theorem SqD.of {K : PySem.W.Frag} {G : Hp} {a : Addr} {xs : List V} (h : G a = some (.tup xs)) : SqD K G a xs := .inl h
theorem SqD.same {K : PySem.W.Frag} {G G' : Hp} {a : Addr} {xs : List V} (s : Same G G') (h : SqD K G a xs) : SqD K G' a xs := h.elim (fun e => .inl (s _ _ e)) fun e => .inr ⟨Same.sqT s e.1, e.2⟩
mutual
inductive Rp (K : PySem.W.Frag) (c : CEnv) (S : Option Addr) (G : Hp) : V → Da → Prop
  | non : Rp K c S G .non .non
  | st {a : Addr} : S = some a → Rp K c S G (.ref a) .st
  | bl (b : Bool) : Rp K c S G (.bl b) (.bl b)
  | int (i : Int) : Rp K c S G (.int i) (.int i)
  | str (x : Str) : Rp K c S G (.str x) (.str x)
  | ty (n : String) : Rp K c S G (.ty n) (.ty n)
  | tup {a : Addr} {xs : List V} {ds : List Da} : SqD K G a xs → RpA K c S G xs ds → Rp K c S G (.ref a) (.tup ds)
  | lst {a : Addr} {xs : List V} {ds : List Da} : G a = some (.lst xs) → RpA K c S G xs ds → Rp K c S G (.ref a) (.lst ds)
  | ins {a dx : Addr} {x : Str} {ks : List Str} {xs : List V} {ds : List Da} : ClsOk K c x ks → G a = some (.ins (c.cls x) dx (ks.zip xs)) → ds.length = ks.length → RpA K c S G xs ds → Rp K c S G (.ref a) (.ins x ks ds)
inductive RpA (K : PySem.W.Frag) (c : CEnv) (S : Option Addr) (G : Hp) : List V → List Da → Prop
  | nil : RpA K c S G [] []
  | cons {v : V} {vs : List V} {d : Da} {ds : List Da} : Rp K c S G v d → RpA K c S G vs ds → RpA K c S G (v :: vs) (d :: ds)
end
section
variable {K : PySem.W.Frag} {c : CEnv} {S : Option Addr} {G G' : Hp} {v : V} {d : Da} {vs : List V} {ds : List Da}
mutual
theorem Rp.same (s : Same G G') : ∀ (d : Da) (v : V), Rp K c S G v d → Rp K c S G' v d
  | .non, _, h => by cases h; exact .non
  | .st, _, h => by cases h with | st e => exact .st e
  | .bl b, _, h => by cases h; exact .bl b
  | .int i, _, h => by cases h; exact .int i
  | .str x, _, h => by cases h; exact .str x
  | .ty n, _, h => by cases h; exact .ty n
  | .tup ds, _, h => by cases h with | tup hs ha => exact .tup (hs.same s) (RpA.same s ds _ ha)
  | .lst ds, _, h => by cases h with | lst hs ha => exact .lst (s _ _ hs) (RpA.same s ds _ ha)
  | .ins x ks ds, _, h => by cases h with | ins ok hs hl ha => exact .ins ok (s _ _ hs) hl (RpA.same s ds _ ha)
theorem RpA.same (s : Same G G') : ∀ (ds : List Da) (vs : List V), RpA K c S G vs ds → RpA K c S G' vs ds
  | [], _, h => by cases h; exact .nil
  | d :: ds, _, h => by cases h with | cons h1 h2 => exact .cons (Rp.same s d _ h1) (RpA.same s ds _ h2)
end
theorem rpS (s : Same G G') (h : Rp K c S G v d) : Rp K c S G' v d := Rp.same s d v h
theorem rpsS (s : Same G G') (h : RpA K c S G vs ds) : RpA K c S G' vs ds := RpA.same s ds vs h
theorem rpT (h : Rp K c S G v (.tup ds)) : ∃ a xs, v = .ref a ∧ SqT K G a xs ∧ RpA K c S G xs ds := by
  cases h with
  | tup hs ha => exact ⟨_, _, rfl, hs.sq, ha⟩
theorem rpL (h : Rp K c S G v (.lst ds)) : ∃ a xs, v = .ref a ∧ G a = some (.lst xs) ∧ RpA K c S G xs ds := by
  cases h with
  | lst hs ha => exact ⟨_, _, rfl, hs, ha⟩
theorem rpO {x : Str} {ks : List Str} (h : Rp K c S G v (.ins x ks ds)) : ∃ a dx xs, v = .ref a ∧ ClsOk K c x ks ∧ G a = some (.ins (c.cls x) dx (ks.zip xs)) ∧ ds.length = ks.length ∧ RpA K c S G xs ds := by
  cases h with
  | ins ok hs hl ha => exact ⟨_, _, _, rfl, ok, hs, hl, ha⟩
theorem rpI {i : Int} (h : Rp K c S G v (.int i)) : v = .int i := by cases h; rfl
theorem rpB {b : Bool} (h : Rp K c S G v (.bl b)) : v = .bl b := by cases h; rfl
theorem rpSt (h : Rp K c S G v .st) : ∃ a, S = some a ∧ v = .ref a := by cases h with | st e => exact ⟨_, e, rfl⟩
theorem rps0 (h : RpA K c S G vs []) : vs = [] := by cases h; rfl
theorem rpsC (h : RpA K c S G vs (d :: ds)) : ∃ v ws, vs = v :: ws ∧ Rp K c S G v d ∧ RpA K c S G ws ds := by
  cases h with
  | cons h1 h2 => exact ⟨_, _, rfl, h1, h2⟩
theorem rpsC' {w : V} {ws : List V} (h : RpA K c S G (w :: ws) ds) : ∃ d es, ds = d :: es ∧ Rp K c S G w d ∧ RpA K c S G ws es := by
  cases h with
  | cons h1 h2 => exact ⟨_, _, rfl, h1, h2⟩
theorem rpsLen : ∀ {ds : List Da} {vs : List V}, RpA K c S G vs ds → vs.length = ds.length
  | [], _, h => by rw [rps0 h]; rfl
  | d :: ds, _, h => by obtain ⟨v, ws, rfl, _, h2⟩ := rpsC h; simp [rpsLen h2]
theorem rpsGet : ∀ {ds : List Da} {vs : List V} {i : Nat}, RpA K c S G vs ds → ds[i]? = some d → ∃ v, vs[i]? = some v ∧ Rp K c S G v d
  | [], _, _, _, h => by cases h
  | e :: ds, _, i, h, hi => by
    obtain ⟨v, ws, rfl, h1, h2⟩ := rpsC h
    cases i with
    | zero => cases hi; exact ⟨v, rfl, h1⟩
    | succ i => obtain ⟨u, a, b⟩ := rpsGet h2 (by simpa using hi); exact ⟨u, a, b⟩
theorem rpsGetV : ∀ {ds : List Da} {vs : List V} {i : Nat}, RpA K c S G vs ds → vs[i]? = some v → ∃ d, ds[i]? = some d ∧ Rp K c S G v d := by
  intro ds vs i h hi
  have hl := rpsLen h
  have := (List.getElem?_eq_some_iff.mp hi).1
  have e := List.getElem?_eq_getElem (show i < ds.length by omega)
  obtain ⟨u, e2, r⟩ := rpsGet h e
  rw [hi] at e2
  cases e2
  exact ⟨_, e, r⟩
theorem rpsApp : ∀ {ds : List Da} {vs : List V}, RpA K c S G vs ds → ∀ {es : List Da} {ws : List V}, RpA K c S G ws es → RpA K c S G (vs ++ ws) (ds ++ es)
  | [], _, h, _, _, h1 => by rw [rps0 h]; exact h1
  | _ :: _, _, h, _, _, h1 => by obtain ⟨u, ws, rfl, a, b⟩ := rpsC h; exact .cons a (rpsApp b h1)
theorem rpsOne (h : Rp K c S G v d) : RpA K c S G [v] [d] := .cons h .nil
theorem rpsTake : ∀ {ds : List Da} {vs : List V} (k : Nat), RpA K c S G vs ds → RpA K c S G (vs.take k) (ds.take k)
  | [], _, k, h => by rw [rps0 h, List.take_nil, List.take_nil]; exact .nil
  | _ :: _, _, 0, _ => .nil
  | _ :: _, _, k + 1, h => by obtain ⟨u, ws, rfl, a, b⟩ := rpsC h; exact .cons a (rpsTake k b)
theorem rpsDrop : ∀ {ds : List Da} {vs : List V} (k : Nat), RpA K c S G vs ds → RpA K c S G (vs.drop k) (ds.drop k)
  | [], _, k, h => by rw [rps0 h, List.drop_nil, List.drop_nil]; exact .nil
  | _ :: _, _, 0, h => h
  | _ :: _, _, k + 1, h => by obtain ⟨u, ws, rfl, a, b⟩ := rpsC h; exact rpsDrop k b
theorem rpsSet : ∀ {ds : List Da} {vs : List V} (k : Nat), RpA K c S G vs ds → Rp K c S G v d → RpA K c S G (vs.set k v) (ds.set k d)
  | [], _, k, h, _ => by rw [rps0 h]; exact .nil
  | _ :: _, _, 0, h, r => by obtain ⟨u, ws, rfl, a, b⟩ := rpsC h; exact .cons r b
  | _ :: _, _, k + 1, h, r => by obtain ⟨u, ws, rfl, a, b⟩ := rpsC h; exact .cons a (rpsSet k b r)
theorem rpsI : ∀ {xs : List Int} {vs : List V}, RpA K c S G vs (xs.map Da.int) → vs = xs.map V.int
  | [], _, h => rps0 h
  | x :: xs, _, h => by obtain ⟨v, ws, rfl, a, b⟩ := rpsC h; rw [rpI a, rpsI b]; rfl
end
inductive Mu where
  | d (x : Da) | l (ts : List Mu) | o (x : Str) (ks : List Str) (ts : List Mu) | h (v : V)
instance : Inhabited Mu := ⟨.d .non⟩
mutual
def Mu.da : Mu → Da
  | .d x => x
  | .l ts => .lst (Mu.das ts)
  | .o x ks ts => .ins x ks (Mu.das ts)
  | .h _ => .non
def Mu.das : List Mu → List Da
  | [] => []
  | t :: ts => t.da :: Mu.das ts
end
mutual
inductive RpM (K : PySem.W.Frag) (c : CEnv) (S : Option Addr) (H G : Hp) : V → Mu → List Addr → Prop
  | d {v : V} {x : Da} : Rp K c S G v x → RpM K c S H G v (.d x) []
  | l {a : Addr} {vs : List V} {ts : List Mu} {as : List Addr} : H a = some (.lst vs) → RpMs K c S H G vs ts as → RpM K c S H G (.ref a) (.l ts) (a :: as)
  | o {a dx : Addr} {x : Str} {ks : List Str} {vs : List V} {ts : List Mu} {as : List Addr} : ClsOk K c x ks → H a = some (.ins (c.cls x) dx (ks.zip vs)) → ts.length = ks.length → RpMs K c S H G vs ts as → RpM K c S H G (.ref a) (.o x ks ts) (a :: as)
  | h (v : V) : RpM K c S H G v (.h v) []
inductive RpMs (K : PySem.W.Frag) (c : CEnv) (S : Option Addr) (H G : Hp) : List V → List Mu → List Addr → Prop
  | nil : RpMs K c S H G [] [] []
  | cons {v : V} {vs : List V} {t : Mu} {ts : List Mu} {as bs : List Addr} : RpM K c S H G v t as → RpMs K c S H G vs ts bs → RpMs K c S H G (v :: vs) (t :: ts) (as ++ bs)
end
section
variable {K : PySem.W.Frag} {c : CEnv} {S : Option Addr} {H H' G G' : Hp}
mutual
theorem RpM.mono (s : Same G G') : ∀ (T : Mu) (v : V) (as : List Addr), (∀ a ∈ as, ∀ o, H a = some o → H' a = some o) → RpM K c S H G v T as → RpM K c S H' G' v T as
  | .d x, _, _, _, h => by cases h with | d r => exact .d (rpS s r)
  | .l ts, _, _, k, h => by cases h with | l e r => exact .l (k _ (List.mem_cons_self ..) _ e) (RpMs.mono s ts _ _ (fun a m => k a (List.mem_cons_of_mem _ m)) r)
  | .o x ks ts, _, _, k, h => by cases h with | o ok e hl r => exact .o ok (k _ (List.mem_cons_self ..) _ e) hl (RpMs.mono s ts _ _ (fun a m => k a (List.mem_cons_of_mem _ m)) r)
  | .h _, _, _, _, h => by cases h; exact .h _
theorem RpMs.mono (s : Same G G') : ∀ (ts : List Mu) (vs : List V) (as : List Addr), (∀ a ∈ as, ∀ o, H a = some o → H' a = some o) → RpMs K c S H G vs ts as → RpMs K c S H' G' vs ts as
  | [], _, _, _, h => by cases h; exact .nil
  | t :: ts, _, _, k, h => by cases h with | cons r1 r2 => exact .cons (RpM.mono s t _ _ (fun a m => k a (List.mem_append_left _ m)) r1) (RpMs.mono s ts _ _ (fun a m => k a (List.mem_append_right _ m)) r2)
end
end
inductive Pv where
  | d (x : Da) | own (l : List Da) | obj (x : Str) (gs ks : List Str) (l : List Da) | mu (b : Bool) (T : Mu)
    | dct (t : Bool) (l : List (List L2.Key × Da))
def dO (t : Bool) (kvs : List (List L2.Key × V)) : HO := if t = true then .dT kvs else .dK (kvs.map fun z => (z.1.headD (.inl 0), z.2))
abbrev PEnv := List (Option Pv)
structure Pw where
  S : Option (Addr × Addr)
  O : List Addr
  M : List Addr
  self : Option Addr := none
  par : Nat → Option V := fun _ => none
abbrev Pw.st (w : Pw) : Option Addr := w.S.map (·.1)
abbrev Ow := List (Nat × Addr)
abbrev hl (w : Pw) (ow : Ow) : List Addr := ow.map (·.2) ++ w.O
noncomputable abbrev dh (w : Pw) (ow : Ow) (H : Hp) : Hp := hid H (hl w ow)
def SlotOk (K : PySem.W.Frag) (c : CEnv) (w : Pw) (ow : Ow) (H : Hp) (σ : L2.St) (i : Nat) : Pv → Prop
  | .d x => ∃ v, σ[i]? = some (some v) ∧ Rp K c w.st (dh w ow H) v x
  | .own l => ∃ a vs, (i, a) ∈ ow ∧ σ[i]? = some (some (.ref a)) ∧ H a = some (.lst vs) ∧ RpA K c w.st (dh w ow H) vs l
  | .obj x gs ks l => ∃ a dx vs, (i, a) ∈ ow ∧ σ[i]? = some (some (.ref a)) ∧ (ClsOk K c x gs ∧ w.self = some a) ∧ H a = some (.ins (c.cls x) dx (ks.zip vs)) ∧ l.length = ks.length ∧ RpA K c w.st (dh w ow H) vs l
  | .dct t l => ∃ a vs, (i, a) ∈ ow ∧ σ[i]? = some (some (.ref a)) ∧ H a = some (dO t ((l.map (·.1)).zip vs)) ∧ (RpA K c w.st (dh w ow H) vs (l.map (·.2)) ∧ (t = false → ∀ z ∈ l, ∃ k, z.1 = [k]))
  | .mu b T => ∃ v as, σ[i]? = some (some v) ∧ (b = true → w.par i = some v) ∧ (∀ a ∈ as, (i, a) ∈ ow) ∧ as.Nodup ∧ RpM K c w.st H (dh w ow H) v T as
structure Rel (K : PySem.W.Frag) (c : CEnv) (w : Pw) (H0 B : Hp) (ow : Ow) (H : Hp) (σ : L2.St) (ρ : PEnv) : Prop where
  occ : Occ H (hl w ow)
  dr : ∀ st L, w.S = some (st, L) → Draw H st L ∧ st ∈ w.O ∧ st ∈ w.M
  nd : ∀ p ∈ ow, (∀ st L, w.S = some (st, L) → p.2 ≠ st ∧ p.2 ≠ L) ∧ p.2 ∉ w.O
  inj : ∀ p ∈ ow, ∀ q ∈ ow, p.2 = q.2 → p = q
  fr : ∀ a o, a ∉ w.M → Nt o → H0 a = some o → H a = some o
  fr2 : ∀ p ∈ ow, (∀ o, Nt o → H0 p.2 ≠ some o) ∨ p.2 ∈ w.M
  len : σ.length = ρ.length
  sl : ∀ i x, ρ[i]? = some (some x) → SlotOk K c w ow H σ i x
  bs : Same B (dh w ow H)
  tb : LamX.Tabs c.tb H
def Ex (S : Option (Addr × Addr)) (H H' : Hp) : Prop := (∀ a o, (∀ st L, S = some (st, L) → a ≠ st) → Nt o → H a = some o → H' a = some o) ∧ ∀ st L, S = some (st, L) → Draw H' st L
theorem Ex.of {S : Option (Addr × Addr)} {H H' : Hp} (s : Same H H') (d : ∀ st L, S = some (st, L) → Draw H st L) : Ex S H H' := ⟨fun a o _ _ e => s a o e, fun st L e => (d st L e).same s⟩
def ExC (c : CEnv) (S : Option (Addr × Addr)) (H H' : Hp) : Prop := Ex S H H' ∧ LamX.Tabs c.tb H'
theorem Ex.trans {S : Option (Addr × Addr)} {H H1 H2 : Hp} (x : Ex S H H1) (y : Ex S H1 H2) : Ex S H H2 := ⟨fun a o n t e => y.1 a o n t (x.1 a o n t e), y.2⟩
theorem Ex.lk {S : Option (Addr × Addr)} {H H' : Hp} (x : Ex S H H') {a : Addr} {o : HO} (ns : ∀ st L, S = some (st, L) → a ≠ st) (e : H a = some o) (n : Nt o := by exact fun _ z => (nomatch z)) : H' a = some o := x.1 a o ns n e
theorem Draw.occ {H : Hp} {st L : Addr} (d : Draw H st L) : ∃ o, H st = some o := by obtain ⟨_, _, _, e, _⟩ := d.ex; exact ⟨_, e⟩
theorem Draw.occP {H : Hp} {st L : Addr} (d : Draw H st L) : ∃ o, H st = some o ∧ Pl o := by obtain ⟨_, _, _, e, _⟩ := d.ex; exact ⟨_, e, ⟨fun _ z => (nomatch z), fun _ z => (nomatch z)⟩⟩
theorem Draw.occL {H : Hp} {st L : Addr} (d : Draw H st L) : ∃ o, H L = some o := by obtain ⟨_, _, _, _, e, _⟩ := d.ex; exact ⟨_, e⟩
section
variable {K : PySem.W.Frag} {c : CEnv} {w : Pw} {H0 B H H' : Hp} {ow : Ow} {σ : L2.St} {ρ : PEnv} {v : V} {d : Da}
theorem Occ.ex {S : Option (Addr × Addr)} {ps : List Addr} (x : Ex S H H') (h : Occ H ps) : Occ H' ps := fun a ha => by
  by_cases e : ∃ st L, S = some (st, L) ∧ a = st
  · obtain ⟨st, L, e, rfl⟩ := e
    exact (x.2 _ _ e).occP
  · obtain ⟨o, ho, n⟩ := h a ha
    exact ⟨o, x.1 a o (fun st L h z => e ⟨st, L, h, z⟩) n.1 ho, n⟩
theorem Ex.hid {S : Option (Addr × Addr)} {ps : List Addr} (x : Ex S H H') (hs : ∀ st L, S = some (st, L) → st ∈ ps) : Same (hid H ps) (hid H' ps) := fun a o e => by
  obtain ⟨m, e, n⟩ := hid_some e
  exact hid_lk m (x.1 a o (fun st L h z => m (z ▸ hs st L h)) n e) n
theorem Rel.stO (r : Rel K c w H0 B ow H σ ρ) : ∀ st L, w.S = some (st, L) → st ∈ hl w ow := fun st L e => List.mem_append_right _ (r.dr st L e).2.1
theorem Ex.dh (x : Ex w.S H H') (r : Rel K c w H0 B ow H σ ρ) : Same (dh w ow H) (dh w ow H') := x.hid r.stO
theorem Rel.notSt (r : Rel K c w H0 B ow H σ ρ) {p : Nat × Addr} (h : p ∈ ow) : ∀ st L, w.S = some (st, L) → p.2 ≠ st := fun st L e => ((r.nd p h).1 st L e).1
theorem SlotOk.imp {x : Pv} {i : Nat} (s : Same (dh w ow H) (dh w ow H')) (k : ∀ p ∈ ow, ∀ o, H p.2 = some o → H' p.2 = some o) (h : SlotOk K c w ow H σ i x) : SlotOk K c w ow H' σ i x := by
  cases x with
  | d x => obtain ⟨v, e, r⟩ := h; exact ⟨v, e, rpS s r⟩
  | own l => obtain ⟨a, vs, m, e, eh, r⟩ := h; exact ⟨a, vs, m, e, k _ m _ eh, rpsS s r⟩
  | dct t l => obtain ⟨a, vs, m, e, eh, ⟨r, oo⟩⟩ := h; exact ⟨a, vs, m, e, k _ m _ eh, ⟨rpsS s r, oo⟩⟩
  | obj x gs ks l => obtain ⟨a, dx, vs, m, e, ok, eh, hl, r⟩ := h; exact ⟨a, dx, vs, m, e, ok, k _ m _ eh, hl, rpsS s r⟩
  | mu b T => obtain ⟨v, as, e, p, m, n, r⟩ := h; exact ⟨v, as, e, p, m, n, r.mono s _ _ _ (fun a ha o eo => k _ (m a ha) o eo)⟩
theorem Rel.plO (r : Rel K c w H0 B ow H σ ρ) {p : Nat × Addr} (hp : p ∈ ow) : ∃ o, H p.2 = some o ∧ Pl o := r.occ _ (List.mem_append_left _ (List.mem_map_of_mem (f := (·.2)) hp))
theorem Rel.ex (r : Rel K c w H0 B ow H σ ρ) (x : Ex w.S H H') (t : LamX.Tabs c.tb H') : Rel K c w H0 B ow H' σ ρ := by
  have s := x.dh r
  refine ⟨r.occ.ex x, fun st L e => ⟨x.2 st L e, (r.dr st L e).2⟩, r.nd, r.inj, fun a o n nt e => ?_, r.fr2, r.len, fun i y e => (r.sl i y e).imp s (fun p hp o e => x.1 _ _ (r.notSt hp) (by obtain ⟨u, e2, n⟩ := r.plO hp; rw [e] at e2; cases e2; exact n.1) e), Same.trans r.bs s, t⟩
  exact x.1 a o (fun st L h z => n (z ▸ (r.dr st L h).2.2)) nt (r.fr a o n nt e)
theorem Rel.exOf (r : Rel K c w H0 B ow H σ ρ) (s : Same H H') : Ex w.S H H' := Ex.of s fun st L e => (r.dr st L e).1
theorem Rel.same (r : Rel K c w H0 B ow H σ ρ) (s : Same H H') : Rel K c w H0 B ow H' σ ρ := r.ex (r.exOf s) (r.tb.ext s)
theorem Rel.new (r : Rel K c w H0 B ow H σ ρ) {p : Addr} {o : HO} (h : H p = none) : Rel K c w H0 B ow (upd H p o) σ ρ := r.same (Same.new h (Same.refl H))
theorem getElem?_set' {α : Type} {l : List α} {i j : Nat} {x : α} : (l.set i x)[j]? = if i = j then (if j < l.length then some x else none) else l[j]? := by
  by_cases h : i = j
  · subst h; rw [if_pos rfl]
    by_cases h2 : i < l.length
    · rw [if_pos h2, List.getElem?_set_self h2]
    · rw [if_neg h2]; exact List.getElem?_eq_none (by rw [List.length_set]; omega)
  · rw [if_neg h, List.getElem?_set_ne h]
theorem SlotOk.other {x : Pv} {i j : Nat} {y : Option V} (h : SlotOk K c w ow H σ i x) (ne : j ≠ i) : SlotOk K c w ow H (σ.set j y) i x := by
  cases x with
  | d x => obtain ⟨v, e, r⟩ := h; exact ⟨v, by rw [List.getElem?_set_ne ne]; exact e, r⟩
  | own l => obtain ⟨a, vs, m, e, eh, r⟩ := h; exact ⟨a, vs, m, by rw [List.getElem?_set_ne ne]; exact e, eh, r⟩
  | dct t l => obtain ⟨a, vs, m, e, eh, ⟨r, oo⟩⟩ := h; exact ⟨a, vs, m, ⟨by rw [List.getElem?_set_ne ne]; exact e, eh, r, oo⟩⟩
  | obj x gs ks l => obtain ⟨a, dx, vs, m, e, r⟩ := h; exact ⟨a, dx, vs, m, by rw [List.getElem?_set_ne ne]; exact e, r⟩
  | mu b T => obtain ⟨v, as, e, r⟩ := h; exact ⟨v, as, by rw [List.getElem?_set_ne ne]; exact e, r⟩
theorem Rel.set (r : Rel K c w H0 B ow H σ ρ) (i : Nat) (h : Rp K c w.st (dh w ow H) v d) : Rel K c w H0 B ow H (σ.set i (some v)) (ρ.set i (some (.d d))) := by
  refine ⟨r.occ, r.dr, r.nd, r.inj, r.fr, r.fr2, by rw [List.length_set, List.length_set]; exact r.len, fun j x e => ?_, r.bs, r.tb⟩
  rw [getElem?_set'] at e
  by_cases q : i = j
  · subst q
    rw [if_pos rfl] at e
    by_cases l : i < ρ.length
    · rw [if_pos l] at e
      cases e
      exact ⟨v, by rw [List.getElem?_set_self (by rw [r.len]; exact l)], h⟩
    · rw [if_neg l] at e; cases e
  · rw [if_neg q] at e
    exact (r.sl j x e).other q
theorem Rel.drop (r : Rel K c w H0 B ow H σ ρ) (i : Nat) (y : Option V) : Rel K c w H0 B ow H (σ.set i y) (ρ.set i none) := by
  refine ⟨r.occ, r.dr, r.nd, r.inj, r.fr, r.fr2, by rw [List.length_set, List.length_set]; exact r.len, fun j x e => ?_, r.bs, r.tb⟩
  rw [getElem?_set'] at e
  by_cases q : i = j
  · subst q
    rw [if_pos rfl] at e
    split at e <;> cases e
  · rw [if_neg q] at e
    exact (r.sl j x e).other q
theorem RpA.hide {S : Option Addr} {vs : List V} {l : List Da} {p : Addr} {ps : List Addr} (h : H p = none) (r : RpA K c S (hid H ps) vs l) (s : Same H H') : RpA K c S (hid H' (p :: ps)) vs l := rpsS (hid_ofS h s) r
theorem Rel.hide (r : Rel K c w H0 B ow H σ ρ) {p : Addr} {o : HO} {j : Nat} (h : H p = none) (np : Pl o := by exact ⟨fun _ z => (nomatch z), fun _ z => (nomatch z)⟩) : Rel K c w H0 B ((j, p) :: ow) (upd H p o) σ ρ := by
  have s : Same H (upd H p o) := Same.new h (Same.refl H)
  have sd : Same (dh w ow H) (dh w ((j, p) :: ow) (upd H p o)) := hid_ofS h s
  have fresh : ∀ q ∈ ow, q.2 ≠ p := fun q hq z => by
    obtain ⟨u, e, _⟩ := r.occ q.2 (List.mem_append_left _ (List.mem_map_of_mem hq))
    rw [z, h] at e; cases e
  refine ⟨Occ.cons (o := o) upd_same (r.occ.same s) np, fun st L e => ⟨(r.dr st L e).1.same s, (r.dr st L e).2⟩, ?_, ?_, fun a o' n t e => s _ _ (r.fr a o' n t e), ?_, r.len, fun i x e => ?_, Same.trans r.bs sd, r.tb.ext s⟩
  · intro q hq
    rcases List.mem_cons.mp hq with rfl | hq
    · refine ⟨fun st L e => ⟨fun z => ?_, fun z => ?_⟩, fun m => ?_⟩
      · subst z; obtain ⟨o', e'⟩ := (r.dr _ L e).1.occ; rw [h] at e'; cases e'
      · subst z; obtain ⟨o', e'⟩ := (r.dr st _ e).1.occL; rw [h] at e'; cases e'
      · obtain ⟨o', e', _⟩ := r.occ p (List.mem_append_right _ m); rw [h] at e'; cases e'
    · exact r.nd q hq
  · intro q hq q' hq' e
    rcases List.mem_cons.mp hq with rfl | hq
    · rcases List.mem_cons.mp hq' with rfl | hq'
      · rfl
      · exact absurd e.symm (fresh q' hq')
    · rcases List.mem_cons.mp hq' with rfl | hq'
      · exact absurd e (fresh q hq)
      · exact r.inj q hq q' hq' e
  · intro q hq
    rcases List.mem_cons.mp hq with rfl | hq
    · by_cases m : p ∈ w.M
      · exact .inr m
      · exact .inl fun u n e => by have := r.fr p u m n e; rw [h] at this; cases this
    · exact r.fr2 q hq
  · have k := r.sl i x e
    cases x with
    | d x => obtain ⟨v, e, rr⟩ := k; exact ⟨v, e, rpS sd rr⟩
    | own l => obtain ⟨a, vs, m, e, eh, rr⟩ := k; exact ⟨a, vs, List.mem_cons_of_mem _ m, e, s _ _ eh, rpsS sd rr⟩
    | dct t l => obtain ⟨a, vs, m, e, eh, ⟨rr, oo⟩⟩ := k; exact ⟨a, vs, List.mem_cons_of_mem _ m, e, s _ _ eh, ⟨rpsS sd rr, oo⟩⟩
    | obj x gs ks l => obtain ⟨a, dx, vs, m, e, ok, eh, hl, rr⟩ := k; exact ⟨a, dx, vs, List.mem_cons_of_mem _ m, e, ok, s _ _ eh, hl, rpsS sd rr⟩
    | mu b T => obtain ⟨v, as, e, q, m, n, rr⟩ := k; exact ⟨v, as, e, q, fun a ha => List.mem_cons_of_mem _ (m a ha), n, rr.mono sd _ _ _ fun a _ o eo => s a o eo⟩
theorem Rel.write (r : Rel K c w H0 B ow H σ ρ) {j : Nat} {p : Addr} {o : HO} (hm : (j, p) ∈ ow) (sl : ∀ i x, ρ[i]? = some (some x) → (i, p) ∈ ow → SlotOk K c w ow (upd H p o) σ i x) (np : Pl o := by exact ⟨fun _ z => (nomatch z), fun _ z => (nomatch z)⟩) : Rel K c w H0 B ow (upd H p o) σ ρ := by
  have hin : p ∈ hl w ow := List.mem_append_left _ (List.mem_map_of_mem (f := (·.2)) hm)
  have ed : dh w ow (upd H p o) = dh w ow H := hid_put hin
  refine ⟨r.occ.put np, fun st L e => ⟨Draw.put ((r.nd _ hm).1 st L e).1 ((r.nd _ hm).1 st L e).2 (r.dr st L e).1, (r.dr st L e).2⟩, r.nd, r.inj, fun a u n nt e => ?_, r.fr2, r.len, fun i x e => ?_, by rw [ed]; exact r.bs, by obtain ⟨u, e, n⟩ := r.plO hm; exact tabs_put e n r.tb⟩
  · have x := r.fr a u n nt e
    refine lk_ne (fun z => ?_) x
    subst z
    rcases r.fr2 _ hm with z | z
    · exact z u nt e
    · exact n z
  · by_cases q : (i, p) ∈ ow
    · exact sl i x e q
    · have k := r.sl i x e
      have ne : ∀ a, (i, a) ∈ ow → a ≠ p := fun a m z => q (z ▸ m)
      cases x with
      | d x => obtain ⟨v, e, rr⟩ := k; exact ⟨v, e, by rw [ed]; exact rr⟩
      | own l => obtain ⟨a, vs, m, e, eh, rr⟩ := k; exact ⟨a, vs, m, e, lk_ne (ne a m) eh, by rw [ed]; exact rr⟩
      | dct t l => obtain ⟨a, vs, m, e, eh, ⟨rr, oo⟩⟩ := k; exact ⟨a, vs, m, e, lk_ne (ne a m) eh, ⟨by rw [ed]; exact rr, oo⟩⟩
      | obj x gs ks l => obtain ⟨a, dx, vs, m, e, ok, eh, hl, rr⟩ := k; exact ⟨a, dx, vs, m, e, ok, lk_ne (ne a m) eh, hl, by rw [ed]; exact rr⟩
      | mu b T => obtain ⟨v, as, e, q, m, n, rr⟩ := k; exact ⟨v, as, e, q, m, n, by rw [ed]; exact rr.mono (Same.refl _) _ _ _ fun a ha o eo => lk_ne (ne a (m a ha)) eo⟩
end

abbrev WP := Str → PEnv → Prop
structure PD where
  nx : PEnv → Prop
  rt : Da → Prop
  bk : PEnv → Prop := fun _ => False
  ct : PEnv → Prop := fun _ => False
  rm : Pv → PEnv → Prop := fun _ _ => False
abbrev PEx := PEnv → (Da → Prop) → Prop
abbrev PTe := PEnv → (Bool → Prop) → Prop
abbrev PAr := PEnv → (List Da → Prop) → Prop
abbrev PSt := PD → PEnv → Prop
abbrev PTg := Da → PEnv → (PEnv → Prop) → Prop
abbrev PR2 := Da → Da → (Da → Prop) → Prop
abbrev PR1 := Da → (Da → Prop) → Prop
abbrev PRl := List Da → (Da → Prop) → Prop
abbrev PSp := List Da → (Da → Prop) → (Str → Prop) → Prop
abbrev PSi := List Da → (List Da → Prop) → (Str → Prop) → Prop
structure Cn where
  K : PySem.W.Frag
  c : CEnv
  W : WX
  Wp : WP
section
variable (N : Cn)
def AdW (w : Pw) (H0 B : Hp) : Prop := ∀ x ow H σ ρ, Rel N.K N.c w H0 B ow H σ ρ → N.Wp x ρ → N.W (.ref (N.c.cls x)) none σ H
def Post (w : Pw) (H0 B : Hp) (ow : Ow) (H : Hp) (σ : L2.St) (ρ : PEnv) (Q' : Da → Prop) (Q : VK) : Prop := ∀ v d H', Rel N.K N.c w H0 B ow H' σ ρ → Ex w.S H H' → Rp N.K N.c w.st (dh w ow H') v d → Q' d → Q v H'
def PostT (w : Pw) (H0 B : Hp) (ow : Ow) (H : Hp) (σ : L2.St) (ρ : PEnv) (Q' : Bool → Prop) (Q : Bool → Hp → Prop) : Prop := ∀ b H', Rel N.K N.c w H0 B ow H' σ ρ → Ex w.S H H' → Q' b → Q b H'
def PostA (w : Pw) (H0 B : Hp) (ow : Ow) (H : Hp) (σ : L2.St) (ρ : PEnv) (Q' : List Da → Prop) (Q : List V → Hp → Prop) : Prop := ∀ vs ds H', Rel N.K N.c w H0 B ow H' σ ρ → Ex w.S H H' → RpA N.K N.c w.st (dh w ow H') vs ds → Q' ds → Q vs H'
def SimE (t : TE) (p : PEx) : Prop := ∀ w H0 B, AdW N w H0 B → ∀ ow H σ ρ Q Q', Rel N.K N.c w H0 B ow H σ ρ → p ρ Q' → Post N w H0 B ow H σ ρ Q' Q → t σ H Q
def SimT (t : TT) (p : PTe) : Prop := ∀ w H0 B, AdW N w H0 B → ∀ ow H σ ρ Q Q', Rel N.K N.c w H0 B ow H σ ρ → p ρ Q' → PostT N w H0 B ow H σ ρ Q' Q → t σ H Q
def SimA (t : TA) (p : PAr) : Prop := ∀ w H0 B, AdW N w H0 B → ∀ ow H σ ρ Q Q', Rel N.K N.c w H0 B ow H σ ρ → p ρ Q' → PostA N w H0 B ow H σ ρ Q' Q → t σ H Q
def SimR (r : R2) (q : PR2) : Prop := ∀ w H0 B ow H σ ρ x y dx dy Q Q', Rel N.K N.c w H0 B ow H σ ρ → Rp N.K N.c w.st (dh w ow H) x dx → Rp N.K N.c w.st (dh w ow H) y dy → q dx dy Q' → Post N w H0 B ow H σ ρ Q' Q → r x y H Q
def SimL (r : List V → Hp → VK → Prop) (q : PRl) : Prop := ∀ w H0 B ow H σ ρ xs ds Q Q', Rel N.K N.c w H0 B ow H σ ρ → RpA N.K N.c w.st (dh w ow H) xs ds → q ds Q' → Post N w H0 B ow H σ ρ Q' Q → r xs H Q
def OutOk (K : PySem.W.Frag) (c : CEnv) (w : Pw) (ow : Ow) (H : Hp) (v : V) : Pv → Prop
  | .d d => Rp K c w.st (dh w ow H) v d
  | .mu _ T => ∃ as i, RpM K c w.st H (dh w ow H) v T as ∧ as.Nodup ∧ ∀ a ∈ as, (i, a) ∈ ow
  | _ => False
structure AdD (w : Pw) (H0 B : Hp) (D : Ends) (D' : PD) : Prop where
  nx : ∀ ow H σ ρ, Rel N.K N.c w H0 B ow H σ ρ → D'.nx ρ → D.nx σ H
  bk : ∀ ow H σ ρ, Rel N.K N.c w H0 B ow H σ ρ → D'.bk ρ → D.bk σ H
  ct : ∀ ow H σ ρ, Rel N.K N.c w H0 B ow H σ ρ → D'.ct ρ → D.ct σ H
  rt : ∀ ow H σ ρ v d, Rel N.K N.c w H0 B ow H σ ρ → Rp N.K N.c w.st (dh w ow H) v d → D'.rt d → D.rt v H
  rm : ∀ ow H σ ρ v x, Rel N.K N.c w H0 B ow H σ ρ → OutOk N.K N.c w ow H v x → D'.rm x ρ → D.rt v H
def SimS (t : TS) (p : PSt) : Prop := ∀ w H0 B, AdW N w H0 B → ∀ ow H σ ρ D D', AdD N w H0 B D D' → Rel N.K N.c w H0 B ow H σ ρ → p D' ρ → t D σ H
def SimG (g : TG) (sl : List Nat) (pg : PTg) : Prop := ∀ w H0 B ow H σ ρ v d Q Q', Rel N.K N.c w H0 B ow H σ ρ → Rp N.K N.c w.st (dh w ow H) v d → pg d ρ Q' → (∀ σ' ρ', Rel N.K N.c w H0 B ow H σ' ρ' → (∀ vs, (∀ i ∈ sl, i ∈ vs) → wipe σ' vs = wipe σ vs) → Q' ρ' → Q σ' H) → g v σ H Q
end
section
variable {N : Cn} {w : Pw} {H0 B H H' : Hp} {ow : Ow} {σ : L2.St} {ρ : PEnv}
theorem Rel.re {K : PySem.W.Frag} {c : CEnv} {B' : Hp} (r : Rel K c w H0 B' ow H σ ρ) (s : Same B B') : Rel K c w H0 B ow H σ ρ := ⟨r.occ, r.dr, r.nd, r.inj, r.fr, r.fr2, r.len, r.sl, Same.trans s r.bs, r.tb⟩
theorem AdW.re {B' : Hp} (a : AdW N w H0 B) (s : Same B B') : AdW N w H0 B' := fun x ow H σ ρ r q => a x ow H σ ρ (r.re s) q
theorem rpsAt {K : PySem.W.Frag} {c : CEnv} {S : Option Addr} {G : Hp} {vs : List V} {ds : List Da} {i : Int} {d : Da} (h : RpA K c S G vs ds) (e : atI ds i = some d) : ∃ v, atI vs i = some v ∧ Rp K c S G v d := by
  unfold atI at e ⊢
  rw [rpsLen h]
  cases q : ixN ds.length i with
  | none => rw [q] at e; cases e
  | some j =>
    rw [q] at e
    exact rpsGet h e
theorem Post.flat {Q' : Da → Prop} {Q : VK} {v : V} {d : Da} (k : Post N w H0 B ow H σ ρ Q' Q) (r : Rel N.K N.c w H0 B ow H σ ρ) (h : Rp N.K N.c w.st (dh w ow H) v d) (q : Q' d) : Q v H := k v d H r (r.exOf (Same.refl _)) h q
theorem Post.newL {Q' : Da → Prop} {Q : VK} {vs : List V} {ds : List Da} {p : Addr} (k : Post N w H0 B ow H σ ρ Q' Q) (r : Rel N.K N.c w H0 B ow H σ ρ) (h : RpA N.K N.c w.st (dh w ow H) vs ds) (q : Q' (.lst ds)) (hp : H p = none) : Q (.ref p) (upd H p (.lst vs)) :=
  k _ _ _ (r.new hp) (r.exOf (Same.new hp (Same.refl H))) (.lst (hid_lk (r.occ.no hp) upd_same) (rpsS (hid_new hp) h)) q
theorem Post.newT {Q' : Da → Prop} {Q : VK} {vs : List V} {ds : List Da} {p : Addr} (k : Post N w H0 B ow H σ ρ Q' Q) (r : Rel N.K N.c w H0 B ow H σ ρ) (h : RpA N.K N.c w.st (dh w ow H) vs ds) (q : Q' (.tup ds)) (hp : H p = none) : Q (.ref p) (upd H p (.tup vs)) :=
  k _ _ _ (r.new hp) (r.exOf (Same.new hp (Same.refl H))) (.tup (SqD.of (hid_lk (r.occ.no hp) upd_same)) (rpsS (hid_new hp) h)) q
theorem Post.then {Q' Q2 : Da → Prop} {Q : VK} (k : Post N w H0 B ow H σ ρ Q' Q) (s : Ex w.S H H') (i : ∀ d, Q2 d → Q' d) : Post N w H0 B ow H' σ ρ Q2 Q := fun v d H2 r s2 h q => k v d H2 r (Ex.trans s s2) h (i d q)
def pVar (i : Nat) : PEx := fun ρ Q => ∃ d, ρ[i]? = some (some (.d d)) ∧ Q d
def pC (d : Da) : PEx := fun _ Q => Q d
theorem sim_var (i : Nat) : SimE N (tVar i) (pVar i) := by
  intro w H0 B aw ow H σ ρ Q Q' r h k
  obtain ⟨d, e, q⟩ := h
  obtain ⟨v, ev, rv⟩ := r.sl i _ e
  exact ⟨v, ev, k.flat r rv q⟩
theorem sim_int (i : Int) : SimE N (tC (.int i)) (pC (.int i)) := fun w H0 B aw ow H σ ρ Q Q' r h k => k.flat r (.int i) h
theorem sim_str (i : Str) : SimE N (tC (.str i)) (pC (.str i)) := fun w H0 B aw ow H σ ρ Q Q' r h k => k.flat r (.str i) h
theorem sim_bl (i : Bool) : SimE N (tC (.bl i)) (pC (.bl i)) := fun w H0 B aw ow H σ ρ Q Q' r h k => k.flat r (.bl i) h
theorem sim_non : SimE N (tC .non) (pC .non) := fun w H0 B aw ow H σ ρ Q Q' r h k => k.flat r .non h
def pNil : PAr := fun _ Q => Q []
def pCons (a : PEx) (t : PAr) : PAr := fun ρ Q => a ρ fun x => t ρ fun xs => Q (x :: xs)
theorem sim_nil : SimA N tNil pNil := fun w H0 B aw ow H σ ρ Q Q' r h k => k [] [] H r (r.exOf (Same.refl _)) .nil h
theorem sim_cons {a : TE} {t : TA} {pa : PEx} {pt : PAr} (ha : SimE N a pa) (ht : SimA N t pt) : SimA N (tCons a t) (pCons pa pt) := by
  intro w H0 B aw ow H σ ρ Q Q' r h k
  refine ha w H0 B aw ow H σ ρ _ _ r h fun v d H1 r1 s1 h1 q1 => ?_
  refine ht w H0 B aw ow H1 σ ρ _ _ r1 q1 fun vs ds H2 r2 s2 h2 q2 => ?_
  exact k _ _ H2 r2 (Ex.trans s1 s2) (.cons (rpS (s2.dh r1) h1) h2) q2
def pLst (t : PAr) : PEx := fun ρ Q => t ρ fun ds => ds.length ≤ 100000 ∧ Q (.lst ds)
def pTup (t : PAr) : PEx := fun ρ Q => t ρ fun ds => ds.length ≤ 100000 ∧ Q (.tup ds)
theorem sim_lst {t : TA} {pt : PAr} (ht : SimA N t pt) : SimE N (tLst t) (pLst pt) := by
  intro w H0 B aw ow H σ ρ Q Q' r h k
  refine ht w H0 B aw ow H σ ρ _ _ r h fun vs ds H1 r1 s1 h1 ⟨l, q1⟩ => ⟨Nat.le_trans (by rw [rpsLen h1]; exact l) (by decide), fun p hp => ?_⟩
  exact (k.then s1 fun _ q => q).newL r1 h1 q1 hp
theorem sim_tup {t : TA} {pt : PAr} (ht : SimA N t pt) : SimE N (tTup t) (pTup pt) := by
  intro w H0 B aw ow H σ ρ Q Q' r h k
  refine ht w H0 B aw ow H σ ρ _ _ r h fun vs ds H1 r1 s1 h1 ⟨l, q1⟩ => ⟨Nat.le_trans (by rw [rpsLen h1]; exact l) (by decide), fun p hp => ?_⟩
  exact (k.then s1 fun _ q => q).newT r1 h1 q1 hp
def pOp (r : PR2) (a b : PEx) : PEx := fun ρ Q => a ρ fun x => b ρ fun y => r x y Q
def pUn (r : PR1) (a : PEx) : PEx := fun ρ Q => a ρ fun x => r x Q
def pCB (r : PRl) (a : PAr) : PEx := fun ρ Q => a ρ fun x => r x Q
theorem sim_op {r : R2} {q : PR2} {a b : TE} {pa pb : PEx} (hr : SimR N r q) (ha : SimE N a pa) (hb : SimE N b pb) : SimE N (tOp r a b) (pOp q pa pb) := by
  intro w H0 B aw ow H σ ρ Q Q' rr h k
  refine ha w H0 B aw ow H σ ρ _ _ rr h fun x dx H1 r1 s1 h1 q1 => ?_
  refine hb w H0 B aw ow H1 σ ρ _ _ r1 q1 fun y dy H2 r2 s2 h2 q2 => ?_
  exact hr w H0 B ow H2 σ ρ x y dx dy Q Q' r2 (rpS (s2.dh r1) h1) h2 q2 (k.then (Ex.trans s1 s2) fun _ q => q)
theorem sim_cb {r : List V → Hp → VK → Prop} {q : PRl} {a : TA} {pa : PAr} (hr : SimL N r q) (ha : SimA N a pa) : SimE N (tCB r a) (pCB q pa) := by
  intro w H0 B aw ow H σ ρ Q Q' rr h k
  refine ha w H0 B aw ow H σ ρ _ _ rr h fun x dx H1 r1 s1 h1 q1 => ?_
  exact hr w H0 B ow H1 σ ρ x dx Q Q' r1 h1 q1 (k.then s1 fun _ q => q)
def pAdd : PR2 := fun x y Q => match x, y with
  | .int i, .int j => Q (.int (i + j))
  | .str a, .str b => a.length + b.length ≤ 100000 ∧ Q (.str (a ++ b))
  | .lst a, .lst b => a.length + b.length ≤ 100000 ∧ Q (.lst (a ++ b))
  | .tup a, .tup b => a.length + b.length ≤ 100000 ∧ Q (.tup (a ++ b))
  | _, _ => False
theorem sim_add : SimR N (uAdd N.K) pAdd := by
  intro w H0 B ow H σ ρ x y dx dy Q Q' r hx hy h k
  cases dx <;> cases dy <;> first | exact h.elim | skip
  · cases hx; cases hy; exact k.flat r (.int _) h
  · cases hx; cases hy; exact ⟨Nat.le_trans h.1 (by decide), k.flat r (.str _) h.2⟩
  · obtain ⟨a, xs, rfl, e1, r1⟩ := rpT hx
    obtain ⟨b, ys, rfl, e2, r2⟩ := rpT hy
    refine .inr ⟨a, b, xs, ys, rfl, rfl, Same.sqT hid_le e1, Same.sqT hid_le e2, Nat.le_trans (by rw [rpsLen r1, rpsLen r2]; exact h.1) (by decide), ?_⟩
    have ra := rpsApp r1 r2
    refine ⟨fun z => ?_, fun z1 z2 => ?_, fun _ _ p hp => k.newT r ra h.2 hp⟩
    · subst z
      have := rpsLen r1
      rw [List.length_nil] at this
      obtain rfl := List.length_eq_zero_iff.mp this.symm
      exact k.flat r hy (by simpa using h.2)
    · subst z2
      have := rpsLen r2
      rw [List.length_nil] at this
      obtain rfl := List.length_eq_zero_iff.mp this.symm
      exact k.flat r hx (by simpa using h.2)
  · obtain ⟨a, xs, rfl, e1, r1⟩ := rpL hx
    obtain ⟨b, ys, rfl, e2, r2⟩ := rpL hy
    exact .inl ⟨a, b, xs, ys, rfl, rfl, hid_le _ _ e1, hid_le _ _ e2, Nat.le_trans (by rw [rpsLen r1, rpsLen r2]; exact h.1) (by decide), fun p hp => k.newL r (rpsApp r1 r2) h.2 hp⟩
def pSub : PR2 := fun x y Q => match x, y with
  | .int i, .int j => Q (.int (i - j))
  | _, _ => False
def pMul : PR2 := fun x y Q => match x, y with
  | .int i, .int j => MulOk i j ∧ Q (.int (i * j))
  | _, _ => False
def pDiv : PR2 := fun x y Q => match x, y with
  | .int i, .int j => CDivW i j ∧ Q (.int (i / j))
  | _, _ => False
def pMod : PR2 := fun x y Q => match x, y with
  | .int i, .int j => 0 < j ∧ Q (.int (i % j))
  | _, _ => False
def pPow : PR2 := fun x y Q => match x, y with
  | .int i, .int j => CPow i j ∧ Q (.int (i ^ j.toNat))
  | _, _ => False
def pNeg : PR1 := fun x Q => match x with
  | .int i => Q (.int (-i))
  | _ => False
def pLt : PR2 := fun x y Q => match x, y with
  | .int i, .int j => Q (.bl (decide (i < j)))
  | .str i, .str j => Q (.bl (decide (i.cps.toList < j.cps.toList)))
  | .tup [.int i, .str x], .tup [.int j, .str y] => Q (.bl (if i = j then decide (x.cps.toList < y.cps.toList) else decide (i < j)))
  | _, _ => False
def pLe : PR2 := fun x y Q => match x, y with
  | .int i, .int j => Q (.bl (decide (i ≤ j)))
  | .str i, .str j => Q (.bl (!decide (j.cps.toList < i.cps.toList)))
  | _, _ => False
def pGt : PR2 := fun x y Q => match x, y with
  | .int i, .int j => Q (.bl (decide (j < i)))
  | .str i, .str j => Q (.bl (decide (j.cps.toList < i.cps.toList)))
  | _, _ => False
def pGe : PR2 := fun x y Q => match x, y with
  | .int i, .int j => Q (.bl (decide (j ≤ i)))
  | .str i, .str j => Q (.bl (!decide (i.cps.toList < j.cps.toList)))
  | _, _ => False
theorem sim_sub : SimR N uSub pSub := by
  intro w H0 B ow H σ ρ x y dx dy Q Q' r hx hy h k
  cases dx <;> cases dy <;> first | exact h.elim | skip
  cases hx; cases hy; exact k.flat r (.int _) h
theorem sim_mul : SimR N uMul pMul := by
  intro w H0 B ow H σ ρ x y dx dy Q Q' r hx hy h k
  cases dx <;> cases dy <;> first | exact h.elim | skip
  cases hx; cases hy; exact ⟨h.1, k.flat r (.int _) h.2⟩
theorem sim_div : SimR N uDiv pDiv := by
  intro w H0 B ow H σ ρ x y dx dy Q Q' r hx hy h k
  cases dx <;> cases dy <;> first | exact h.elim | skip
  cases hx; cases hy; exact ⟨h.1, k.flat r (.int _) h.2⟩
theorem sim_mod : SimR N uMod pMod := by
  intro w H0 B ow H σ ρ x y dx dy Q Q' r hx hy h k
  cases dx <;> cases dy <;> first | exact h.elim | skip
  cases hx; cases hy; exact ⟨h.1, k.flat r (.int _) h.2⟩
theorem sim_lt : SimR N (uLt N.K) pLt := by
  intro w H0 B ow H σ ρ x y dx dy Q Q' r hx hy h k
  unfold pLt at h
  split at h
  · cases hx; cases hy; exact k.flat r (.bl _) h
  · cases hx; cases hy; exact k.flat r (.bl _) h
  · obtain ⟨a, xs, rfl, e1, r1⟩ := rpT hx
    obtain ⟨b, ys, rfl, e2, r2⟩ := rpT hy
    obtain ⟨v1, w1, rfl, a1, r1⟩ := rpsC r1
    obtain ⟨v2, w2, rfl, a2, r1⟩ := rpsC r1
    obtain ⟨u1, z1, rfl, b1, r2⟩ := rpsC r2
    obtain ⟨u2, z2, rfl, b2, r2⟩ := rpsC r2
    obtain rfl := rps0 r1
    obtain rfl := rps0 r2
    cases a1; cases a2; cases b1; cases b2
    exact z_ltIS (Same.sqT hid_le e1) (Same.sqT hid_le e2) (k.flat r (.bl _) h)
  · exact h.elim
theorem sim_le : SimR N uLe pLe := by
  intro w H0 B ow H σ ρ x y dx dy Q Q' r hx hy h k
  cases dx <;> cases dy <;> first | exact h.elim | skip
  · cases hx; cases hy; exact k.flat r (.bl _) h
  · cases hx; cases hy; exact k.flat r (.bl _) h
theorem sim_gt : SimR N uGt pGt := by
  intro w H0 B ow H σ ρ x y dx dy Q Q' r hx hy h k
  cases dx <;> cases dy <;> first | exact h.elim | skip
  · cases hx; cases hy; exact k.flat r (.bl _) h
  · cases hx; cases hy; exact k.flat r (.bl _) h
end

def eq0 : Da → Da → Bool
  | .non, .non => true
  | .bl a, .bl b => decide (a = b)
  | .bl a, .int j => decide ((if a then 1 else 0) = j)
  | .int i, .bl b => decide (i = (if b then 1 else 0))
  | .int i, .int j => decide (i = j)
  | .str x, .str y => decide (x = y)
  | _, _ => false
def kd0 : Da → Nat
  | .bl _ => 1 | .str _ => 2 | _ => 0
def eqF1 : Da → Da → Bool
  | .tup [a, u], .tup [b, v] => eq0 a b && (decide (kd0 u = kd0 v) && eq0 u v)
  | _, _ => false
def eqF : Da → Da → Bool
  | .tup l, .tup m => (List.zipWith eqF1 l m).all id && (l.length == m.length)
  | _, _ => false
mutual
def eqD : Da → Da → Bool
  | .tup xs, .tup ys => eqDs xs ys
  | .lst xs, .lst ys => eqDs xs ys
  | .ins x ks xs, .ins y ls ys => decide (x = y) && decide (ks = ls) && (if x = "Record" then eqRs 0 xs ys else eqDs xs ys)
  | .st, .st => true
  | .ty n, .ty m => decide (n = m)
  | x, y => eq0 x y
def eqDs : List Da → List Da → Bool
  | [], [] => true
  | x :: xs, y :: ys => eqD x y && eqDs xs ys
  | [], _ :: _ => false
  | _ :: _, [] => false
def eqRs : Nat → List Da → List Da → Bool
  | _, [], [] => true
  | i, x :: xs, y :: ys => (if i = 2 then eqF x y else eqD x y) && eqRs (i + 1) xs ys
  | _, [], _ :: _ => false
  | _, _ :: _, [] => false
end
def flD : Da → Bool
  | .non => true | .bl _ => true | .int _ => true | .str _ => true | _ => false
mutual
def Cq : Nat → Da → Da → Prop
  | 0, x, y => flD x = true ∧ flD y = true
  | n + 1, .tup a, .tup b => Cqs n a b
  | n + 1, .lst a, .lst b => Cqs n a b
  | _ + 1, x, y => flD x = true ∧ flD y = true
def Cqs : Nat → List Da → List Da → Prop
  | n, x :: a, y :: b => Cq n x y ∧ Cqs n a b
  | _, _, _ => True
end
theorem Cqs.of {n : Nat} : ∀ {a b : List Da}, (∀ (i : Nat) (x y : Da), a[i]? = some x → b[i]? = some y → Cq n x y) → Cqs n a b
  | [], _, _ => by unfold Cqs; trivial
  | _ :: _, [], _ => by unfold Cqs; trivial
  | x :: a, y :: b, h => by unfold Cqs; exact ⟨h 0 x y rfl rfl, Cqs.of fun i u v hu hv => h (i + 1) u v hu hv⟩
theorem Cqs.at {n : Nat} : ∀ {a b : List Da}, Cqs n a b → ∀ (i : Nat) (x y : Da), a[i]? = some x → b[i]? = some y → Cq n x y
  | [], _, _, i, x, y, hx, _ => by cases hx
  | _ :: _, [], _, i, x, y, _, hy => by cases hy
  | u :: a, v :: b, h, i, x, y, hx, hy => by
    unfold Cqs at h
    cases i with
    | zero => cases hx; cases hy; exact h.1
    | succ i => exact Cqs.at h.2 i x y hx hy
theorem Cq.flat {n : Nat} {x y : Da} (h1 : flD x = true) (h2 : flD y = true) : Cq n x y := by
  cases n with
  | zero => unfold Cq; exact ⟨h1, h2⟩
  | succ n => cases x <;> cases y <;> first | (cases h1; done) | (cases h2; done) | (unfold Cq; exact ⟨rfl, rfl⟩)
theorem Cq.tup {n : Nat} {a b : List Da} (h : ∀ (i : Nat) (x y : Da), a[i]? = some x → b[i]? = some y → Cq n x y) : Cq (n + 1) (.tup a) (.tup b) := by unfold Cq; exact Cqs.of h
theorem Cq.lst {n : Nat} {a b : List Da} (h : ∀ (i : Nat) (x y : Da), a[i]? = some x → b[i]? = some y → Cq n x y) : Cq (n + 1) (.lst a) (.lst b) := by unfold Cq; exact Cqs.of h
theorem flX {xs : List Str} : (xs.map Da.str).all flD = true := by rw [List.all_map]; exact List.all_eq_true.mpr fun _ _ => rfl
theorem eqDs_all : ∀ {a b : List Da}, eqDs a b = ((List.range (min a.length b.length)).all (fun i => eqD (a.getD i .non) (b.getD i .non)) && (a.length == b.length))
  | [], [] => rfl
  | [], _ :: _ => by simp [eqDs]
  | _ :: _, [] => by simp [eqDs]
  | x :: a, y :: b => by
    unfold eqDs
    rw [eqDs_all (a := a) (b := b)]
    simp only [List.length_cons, Nat.add_min_add_right, List.range_succ_eq_map, List.all_cons, List.all_map, List.getD_cons_zero, Function.comp_def, List.getD_cons_succ, Nat.succ_eq_add_one]
    rw [Bool.and_assoc]
    congr 2
    rw [Bool.eq_iff_iff, beq_iff_eq, beq_iff_eq]; omega
section
variable {K : PySem.W.Frag} {c : CEnv} {S : Option Addr} {G : Hp}
theorem flV_of {v : V} {d : Da} (h : Rp K c S G v d) (f : flD d = true) : flatV v = true := by
  cases d <;> first | (cases f; done) | (cases h; rfl)
theorem eqV_of {v u : V} {d e : Da} (h : Rp K c S G v d) (h2 : Rp K c S G u e) (f : flD d = true) (f2 : flD e = true) : eqV v u = eqD d e := by
  cases d <;> first | (cases f; done) | skip
  all_goals cases e <;> first | (cases f2; done) | skip
  all_goals cases h
  all_goals cases h2
  all_goals (simp only [eqV, eqD, eq0]; try rw [Bool.eq_iff_iff, beq_iff_eq, decide_eq_true_iff])
theorem eqB_sq {n : Nat} (ih : ∀ {x y : V} {d e : Da}, Cq n d e → Rp K c S G x d → Rp K c S G y e → EqB K G n x y (eqD d e)) {xs ys : List V} {a b : List Da} (hc : Cqs n a b) (ra : RpA K c S G xs a) (rb : RpA K c S G ys b) :
    (∀ (i : Nat) (x y : V), xs[i]? = some x → ys[i]? = some y → EqB K G n x y ((fun i => eqD (a.getD i .non) (b.getD i .non)) i)) ∧ eqDs a b = allB xs ys (fun i => eqD (a.getD i .non) (b.getD i .non)) := by
  refine ⟨fun i x y ex ey => ?_, ?_⟩
  · obtain ⟨d, ed, rd⟩ := rpsGetV ra ex
    obtain ⟨e, ee, re⟩ := rpsGetV rb ey
    have z := ih (hc.at i d e ed ee) rd re
    simp only [List.getD_eq_getElem?_getD, ed, ee]
    exact z
  · rw [eqDs_all]
    unfold allB
    rw [rpsLen ra, rpsLen rb]
theorem eqB_of : ∀ {n : Nat} {x y : V} {d e : Da}, Cq n d e → Rp K c S G x d → Rp K c S G y e → EqB K G n x y (eqD d e)
  | 0, x, y, d, e, h, hx, hy => by
    unfold Cq at h
    exact .inl ⟨flV_of hx h.1, flV_of hy h.2, (eqV_of hx hy h.1 h.2).symm⟩
  | n + 1, x, y, d, e, h, hx, hy => by
    have fl : flD d = true ∧ flD e = true → EqB K G (n + 1) x y (eqD d e) := fun z => EqB.up (Nat.zero_le _) (.inl ⟨flV_of hx z.1, flV_of hy z.2, (eqV_of hx hy z.1 z.2).symm⟩)
    have sq := fun {xs ys : List V} {a b : List Da} => eqB_sq (K := K) (c := c) (S := S) (G := G) (n := n) (fun hc hx hy => eqB_of hc hx hy) (xs := xs) (ys := ys) (a := a) (b := b)
    cases d with
    | tup a => cases e with
      | tup b =>
        unfold Cq at h
        obtain ⟨p, xs, rfl, ep, ra⟩ := rpT hx
        obtain ⟨q, ys, rfl, eq', rb⟩ := rpT hy
        obtain ⟨k1, k2⟩ := sq h ra rb
        simp only [eqD]
        exact EqB.of (.inl ⟨ep, eq'⟩) k1 k2
      | _ => (unfold Cq at h; cases h.1)
    | lst a => cases e with
      | lst b =>
        unfold Cq at h
        obtain ⟨p, xs, rfl, ep, ra⟩ := rpL hx
        obtain ⟨q, ys, rfl, eq', rb⟩ := rpL hy
        obtain ⟨k1, k2⟩ := sq h ra rb
        simp only [eqD]
        exact EqB.of (.inr ⟨SqL.of ep, SqL.of eq'⟩) k1 k2
      | _ => (unfold Cq at h; cases h.1)
    | _ => exact fl (by cases e <;> first | (unfold Cq at h; exact h) | exact h)
end
def pEq : PR2 := fun x y Q => ∃ n, n ≤ 16 ∧ Cq n x y ∧ Q (.bl (eqD x y))
def pNe : PR2 := fun x y Q => ∃ n, n ≤ 16 ∧ Cq n x y ∧ Q (.bl (!eqD x y))
section
variable {N : Cn} {w : Pw} {H0 B H H' : Hp} {ow : Ow} {σ : L2.St} {ρ : PEnv}
theorem eq_gen {K : PySem.W.Frag} {c : CEnv} {S : Option Addr} {G : Hp} {n : Nat} {x y : V} {dx dy : Da} {Q : VK} (hn : n ≤ 16) (hc : Cq n dx dy) (hx : Rp K c S G x dx) (hy : Rp K c S G y dy) : (Q (.bl (eqD dx dy)) G → uEq K x y G Q) ∧ (Q (.bl (!eqD dx dy)) G → uNe K x y G Q) := by
  by_cases f : flD dx = true ∧ flD dy = true
  · obtain ⟨f1, f2⟩ := f
    cases dx <;> first | (cases f1; done) | skip
    all_goals cases dy <;> first | (cases f2; done) | skip
    all_goals cases hx
    all_goals cases hy
    all_goals simp only [eqD, eq0]
    all_goals refine ⟨fun q => ?_, fun q => ?_⟩
    all_goals first
      | exact q
      | (refine .inl ⟨rfl, ?_⟩; rw [decide_eq_false (by intro z; cases z)]; exact q)
      | (refine .inr ⟨_, _, by first | exact .bl _ | exact .int _, by first | exact .bl _ | exact .int _, rfl, rfl, ?_⟩; simp only [PyData.eqv]; first | exact q | (rename_i a b; rw [show ((if a = true then (1 : Int) else 0) == b) = decide ((if a = true then (1 : Int) else 0) = b) by rw [Bool.eq_iff_iff, beq_iff_eq, decide_eq_true_iff]]; exact q) | (rename_i a b; rw [show (a == (if b = true then (1 : Int) else 0)) = decide (a = (if b = true then (1 : Int) else 0)) by rw [Bool.eq_iff_iff, beq_iff_eq, decide_eq_true_iff]]; exact q))
  · have sq : ∃ a b xs ys e, x = .ref a ∧ y = .ref b ∧ sameSq K G a b xs ys ∧ (∀ (i : Nat) (x y : V), xs[i]? = some x → ys[i]? = some y → EqB K G n x y (e i)) ∧ eqD dx dy = allB xs ys e := by
      cases n with
      | zero => unfold Cq at hc; exact absurd hc f
      | succ n =>
        cases dx with
        | tup a => cases dy with
          | tup b =>
            unfold Cq at hc
            obtain ⟨p, xs, rfl, ep, ra⟩ := rpT hx
            obtain ⟨q, ys, rfl, eq', rb⟩ := rpT hy
            obtain ⟨k1, k2⟩ := eqB_sq (fun hc hx hy => eqB_of hc hx hy) hc ra rb
            exact ⟨p, q, xs, ys, _, rfl, rfl, .inl ⟨ep, eq'⟩, fun i u v hu hv => .inl (k1 i u v hu hv), by simp only [eqD]; exact k2⟩
          | _ => (unfold Cq at hc; exact absurd hc f)
        | lst a => cases dy with
          | lst b =>
            unfold Cq at hc
            obtain ⟨p, xs, rfl, ep, ra⟩ := rpL hx
            obtain ⟨q, ys, rfl, eq', rb⟩ := rpL hy
            obtain ⟨k1, k2⟩ := eqB_sq (fun hc hx hy => eqB_of hc hx hy) hc ra rb
            exact ⟨p, q, xs, ys, _, rfl, rfl, .inr ⟨SqL.of ep, SqL.of eq'⟩, fun i u v hu hv => .inl (k1 i u v hu hv), by simp only [eqD]; exact k2⟩
          | _ => (unfold Cq at hc; exact absurd hc f)
        | _ => exact absurd (by cases dy <;> first | (unfold Cq at hc; exact hc) | exact hc) f
    obtain ⟨a, b, xs, ys, e, rfl, rfl, h1, h2, h3⟩ := sq
    rw [h3]
    exact ⟨fun q => .inr ⟨n, xs, ys, e, hn, h1, h2, q⟩, fun q => .inr ⟨n, xs, ys, e, hn, h1, h2, q⟩⟩
theorem sim_eq : SimR N (uEq N.K) pEq := by
  intro w H0 B ow H σ ρ x y dx dy Q Q' r hx hy h k
  obtain ⟨n, hn, hc, q⟩ := h
  exact (eq_gen hn hc (rpS hid_le hx) (rpS hid_le hy)).1 (k.flat r (.bl _) q)
theorem sim_ne : SimR N (uNe N.K) pNe := by
  intro w H0 B ow H σ ρ x y dx dy Q Q' r hx hy h k
  obtain ⟨n, hn, hc, q⟩ := h
  exact (eq_gen hn hc (rpS hid_le hx) (rpS hid_le hy)).2 (k.flat r (.bl _) q)
def isNon : Da → Bool | .non => true | _ => false
def pIs : PR2 := fun x y Q => match x, y with
  | x, .non => Q (.bl (isNon x))
  | .bl a, .bl b => Q (.bl (decide (a = b)))
  | _, _ => False
def pIsNot : PR2 := fun x y Q => match x, y with
  | x, .non => Q (.bl (!isNon x))
  | .bl a, .bl b => Q (.bl (!decide (a = b)))
  | _, _ => False
def inD (x : Da) (l : List Da) : Bool := l.any fun y => eqD y x
def pIn : PR2 := fun x y Q => match x, y with
  | .str i, .str j => Q (.bl (!(Builtin.Str.occurrences j i 0 j.length 1).isEmpty))
  | x, .lst l => flD x = true ∧ l.all flD = true ∧ Q (.bl (inD x l))
  | x, .tup l => flD x = true ∧ l.all flD = true ∧ Q (.bl (inD x l))
  | _, _ => False
def pNotIn : PR2 := fun x y Q => match x, y with
  | .str i, .str j => Q (.bl (!(!(Builtin.Str.occurrences j i 0 j.length 1).isEmpty)))
  | x, .lst l => flD x = true ∧ l.all flD = true ∧ Q (.bl (!inD x l))
  | x, .tup l => flD x = true ∧ l.all flD = true ∧ Q (.bl (!inD x l))
  | _, _ => False
theorem flVs_of {K : PySem.W.Frag} {c : CEnv} {S : Option Addr} {G : Hp} : ∀ {vs : List V} {ds : List Da}, RpA K c S G vs ds → ds.all flD = true → vs.all flatV = true
  | _, [], h, _ => by rw [rps0 h]; rfl
  | _, d :: ds, h, f => by
    obtain ⟨v, ws, rfl, a, b⟩ := rpsC h
    rw [List.all_cons, Bool.and_eq_true] at f ⊢
    exact ⟨flV_of a f.1, flVs_of b f.2⟩
theorem inV_of {K : PySem.W.Frag} {c : CEnv} {S : Option Addr} {G : Hp} {v : V} {d : Da} (h : Rp K c S G v d) (f : flD d = true) : ∀ {vs : List V} {ds : List Da}, RpA K c S G vs ds → ds.all flD = true → inV v vs = inD d ds
  | _, [], r, _ => by rw [rps0 r]; rfl
  | _, e :: ds, r, g => by
    obtain ⟨u, ws, rfl, a, b⟩ := rpsC r
    rw [List.all_cons, Bool.and_eq_true] at g
    show (eqV u v || inV v ws) = (eqD e d || inD d ds)
    rw [eqV_of a h g.1 f, inV_of h f b g.2]
theorem sim_in : SimR N (uIn N.K) pIn := by
  intro w H0 B ow H σ ρ x y dx dy Q Q' r hx hy h k
  cases dy with
  | str j => cases dx <;> first | exact h.elim | (cases hx; cases hy; exact k.flat r (.bl _) h)
  | lst l =>
    have h : flD dx = true ∧ l.all flD = true ∧ Q' (.bl (inD dx l)) := by cases dx <;> exact h
    obtain ⟨a, ys, rfl, e, rr⟩ := rpL hy
    exact z_in (.inl (SqL.of (hid_le _ _ e))) (flV_of hx h.1) (flVs_of rr h.2.1) (by rw [inV_of hx h.1 rr h.2.1]; exact k.flat r (.bl _) h.2.2)
  | tup l =>
    have h : flD dx = true ∧ l.all flD = true ∧ Q' (.bl (inD dx l)) := by cases dx <;> exact h
    obtain ⟨a, ys, rfl, e, rr⟩ := rpT hy
    exact z_in (.inr (Same.sqT hid_le e)) (flV_of hx h.1) (flVs_of rr h.2.1) (by rw [inV_of hx h.1 rr h.2.1]; exact k.flat r (.bl _) h.2.2)
  | _ => cases dx <;> exact h.elim
theorem sim_notIn : SimR N (uNotIn N.K) pNotIn := by
  intro w H0 B ow H σ ρ x y dx dy Q Q' r hx hy h k
  cases dy with
  | str j => cases dx <;> first | exact h.elim | (cases hx; cases hy; exact k.flat r (.bl _) h)
  | lst l =>
    have h : flD dx = true ∧ l.all flD = true ∧ Q' (.bl (!inD dx l)) := by cases dx <;> exact h
    obtain ⟨a, ys, rfl, e, rr⟩ := rpL hy
    exact z_notIn (.inl (SqL.of (hid_le _ _ e))) (flV_of hx h.1) (flVs_of rr h.2.1) (by rw [inV_of hx h.1 rr h.2.1]; exact k.flat r (.bl _) h.2.2)
  | tup l =>
    have h : flD dx = true ∧ l.all flD = true ∧ Q' (.bl (!inD dx l)) := by cases dx <;> exact h
    obtain ⟨a, ys, rfl, e, rr⟩ := rpT hy
    exact z_notIn (.inr (Same.sqT hid_le e)) (flV_of hx h.1) (flVs_of rr h.2.1) (by rw [inV_of hx h.1 rr h.2.1]; exact k.flat r (.bl _) h.2.2)
  | _ => cases dx <;> exact h.elim
def pIx : PR2 := fun x y Q => match x, y with
  | .lst l, .int i => ∃ d, atI l i = some d ∧ Q d
  | .tup l, .int i => ∃ d, atI l i = some d ∧ Q d
  | .str z, .int i => z.length ≤ 100000 ∧ ∃ ch, atI z.cps.toList i = some ch ∧ Q (.str ⟨#[ch]⟩)
  | _, _ => False
theorem sim_ix : SimR N (uIx N.K) pIx := by
  intro w H0 B ow H σ ρ x y dx dy Q Q' r hx hy h k
  cases dx <;> cases dy <;> first | exact h.elim | skip
  · cases hx; cases hy
    obtain ⟨hz, ch, e, q⟩ := h
    exact ⟨ch, Nat.le_trans hz (by decide), e, k.flat r (.str _) q⟩
  · obtain ⟨a, ys, rfl, e, rr⟩ := rpT hx
    cases hy
    obtain ⟨d, ed, q⟩ := h
    obtain ⟨v, ev, rv⟩ := rpsAt rr ed
    exact z_ix (.inr (Same.sqT hid_le e)) ev (k.flat r rv q)
  · obtain ⟨a, ys, rfl, e, rr⟩ := rpL hx
    cases hy
    obtain ⟨d, ed, q⟩ := h
    obtain ⟨v, ev, rv⟩ := rpsAt rr ed
    exact z_ix (.inl (SqL.of (hid_le _ _ e))) ev (k.flat r rv q)
def pLen : PRl := fun ds Q => match ds with
  | [.lst l] => Q (.int l.length)
  | [.tup l] => Q (.int l.length)
  | [.str z] => z.length ≤ 100000 ∧ Q (.int z.length)
  | _ => False
theorem rps1 {K : PySem.W.Frag} {c : CEnv} {S : Option Addr} {G : Hp} {vs : List V} {d : Da} (h : RpA K c S G vs [d]) : ∃ v, vs = [v] ∧ Rp K c S G v d := by
  obtain ⟨v, ws, rfl, a, b⟩ := rpsC h
  obtain rfl := rps0 b
  exact ⟨v, rfl, a⟩
theorem rps2 {K : PySem.W.Frag} {c : CEnv} {S : Option Addr} {G : Hp} {vs : List V} {d e : Da} (h : RpA K c S G vs [d, e]) : ∃ v u, vs = [v, u] ∧ Rp K c S G v d ∧ Rp K c S G u e := by
  obtain ⟨v, ws, rfl, a, b⟩ := rpsC h
  obtain ⟨u, ws2, rfl, b2, z⟩ := rpsC b
  obtain rfl := rps0 z
  exact ⟨v, u, rfl, a, b2⟩
theorem sim_len : SimL N (uLen N.K) pLen := by
  intro w H0 B ow H σ ρ xs ds Q Q' r hx h k
  unfold pLen at h
  split at h
  · obtain ⟨v, rfl, a⟩ := rps1 hx
    obtain ⟨p, ys, rfl, e, rr⟩ := rpL a
    exact z_len (.inl (SqL.of (hid_le _ _ e))) (by rw [rpsLen rr]; exact k.flat r (.int _) h)
  · obtain ⟨v, rfl, a⟩ := rps1 hx
    obtain ⟨p, ys, rfl, e, rr⟩ := rpT a
    exact z_len (.inr (Same.sqT hid_le e)) (by rw [rpsLen rr]; exact k.flat r (.int _) h)
  · obtain ⟨v, rfl, a⟩ := rps1 hx
    cases a
    exact ⟨Nat.le_trans h.1 (by decide), k.flat r (.int _) h.2⟩
  · exact h.elim
def pInt : PRl := fun ds Q => match ds with
  | [.int i] => Q (.int i)
  | [.bl b] => Q (.int (if b then 1 else 0))
  | _ => False
theorem sim_intB : SimL N uInt pInt := by
  intro w H0 B ow H σ ρ xs ds Q Q' r hx h k
  unfold pInt at h
  split at h
  · obtain ⟨v, rfl, a⟩ := rps1 hx; cases a; exact k.flat r (.int _) h
  · obtain ⟨v, rfl, a⟩ := rps1 hx; cases a; exact k.flat r (.int _) h
  · exact h.elim
def pMax : PRl := fun ds Q => match ds with
  | [.int i, .int j] => Q (.int (if j > i then j else i))
  | _ => False
def pMin : PRl := fun ds Q => match ds with
  | [.int i, .int j] => Q (.int (if j < i then j else i))
  | _ => False
def pAbs : PRl := fun ds Q => match ds with
  | [.int i] => Q (.int (if i < 0 then -i else i))
  | _ => False
theorem sim_min : SimL N uMin pMin := by
  intro w H0 B ow H σ ρ xs ds Q Q' r hx h k
  unfold pMin at h
  split at h
  · obtain ⟨v, u, rfl, a, b⟩ := rps2 hx; cases a; cases b; exact k.flat r (.int _) h
  · exact h.elim
def pList : PRl := fun ds Q => match ds with
  | [.lst l] => Q (.lst l)
  | [.tup l] => Q (.lst l)
  | _ => False
theorem sim_list : SimL N (uList N.K) pList := by
  intro w H0 B ow H σ ρ xs ds Q Q' r hx h k
  unfold pList at h
  split at h
  · obtain ⟨v, rfl, a⟩ := rps1 hx
    obtain ⟨p, ys, rfl, e, rr⟩ := rpL a
    exact z_list (.inl (SqL.of (hid_le _ _ e))) fun l hl => k.newL r rr h hl
  · obtain ⟨v, rfl, a⟩ := rps1 hx
    obtain ⟨p, ys, rfl, e, rr⟩ := rpT a
    exact z_list (.inr (Same.sqT hid_le e)) fun l hl => k.newL r rr h hl
  · exact h.elim
def pTuple : PRl := fun ds Q => match ds with
  | [.lst l] => Q (.tup l)
  | [.tup l] => Q (.tup l)
  | _ => False
theorem sim_tuple : SimL N (uTuple N.K) pTuple := by
  intro w H0 B ow H σ ρ xs ds Q Q' r hx h k
  unfold pTuple at h
  split at h
  · obtain ⟨v, rfl, a⟩ := rps1 hx
    obtain ⟨p, ys, rfl, e, rr⟩ := rpL a
    exact z_tupleL (SqL.of (hid_le _ _ e)) fun l hl => k.newT r rr h hl
  · obtain ⟨v, rfl, a⟩ := rps1 hx
    have a' := a
    obtain ⟨p, ys, rfl, e, rr⟩ := rpT a
    exact z_tupleT (Same.sqT hid_le e) (k.flat r a' h)
  · exact h.elim
def pSum : PRl := fun ds Q => match ds with
  | [.lst l] => ∃ ns : List Int, l = ns.map Da.int ∧ Q (.int ns.sum)
  | _ => False
theorem sim_sum : SimL N (rSum N.K) pSum := by
  intro w H0 B ow H σ ρ xs ds Q Q' r hx h k
  unfold pSum at h
  split at h
  · obtain ⟨v, rfl, a⟩ := rps1 hx
    obtain ⟨ns, rfl, q⟩ := h
    obtain ⟨p, ys, rfl, e, rr⟩ := rpL a
    obtain rfl := rpsI rr
    exact ⟨p, ns, rfl, SqL.of (hid_le _ _ e), k.flat r (.int _) q⟩
  · exact h.elim
def pOrd : PRl := fun ds Q => match ds with
  | [.str x] => x.length = 1 ∧ Q (.int (x.cps.getD 0 0 : Nat))
  | _ => False
def pStr : PRl := fun ds Q => match ds with
  | [.int i] => i.natAbs.log2 < 1920 ∧ Q (.str (toString i))
  | [.str x] => Q (.str x)
  | _ => False
theorem sim_strB : SimL N uStr pStr := by
  intro w H0 B ow H σ ρ xs ds Q Q' r hx h k
  unfold pStr at h
  split at h
  · obtain ⟨v, rfl, a⟩ := rps1 hx; cases a; exact ⟨h.1, k.flat r (.str _) h.2⟩
  · obtain ⟨v, rfl, a⟩ := rps1 hx; cases a; exact k.flat r (.str _) h
  · exact h.elim
def tyN : Da → String
  | .non => "NoneType" | .bl _ => "bool" | .int _ => "int" | .str _ => "str" | .tup _ => "tuple" | .lst _ => "list" | _ => ""
def isTy (n : String) (x : Da) : Bool := if n = "int" then (match x with | .int _ => true | .bl _ => true | _ => false) else decide (tyN x = n)
def okTy : Da → Bool
  | .non => true | .bl _ => true | .int _ => true | .str _ => true | .tup _ => true | .lst _ => true | _ => false
def pIsi : PRl := fun ds Q => match ds with
  | [x, .ty n] => okTy x = true ∧ (n = "int" ∨ n = "bool" ∨ n = "str" ∨ n = "tuple" ∨ n = "list") ∧ Q (.bl (isTy n x))
  | _ => False
def isC1 (x : Str) (d : Da) (Q : Da → Prop) : Prop := match d with
  | .ins y _ _ => Q (.bl (SUB y x))
  | d => okTy d = true ∧ Q (.bl false)
def pIsC (x : Str) (a : PEx) : PEx := fun ρ Q => a ρ fun d => isC1 x d Q
end

def truD : Da → Bool → Prop
  | .non, k => k = false
  | .bl b, k => k = b
  | .int i, k => k = (i != 0)
  | .str y, k => y.length ≤ 100000 ∧ k = ((y.length : Int) != 0)
  | .lst l, k => k = !l.isEmpty
  | .tup l, k => k = !l.isEmpty
  | _, _ => False
def pTest (p : PEx) : PTe := fun ρ Q => p ρ fun d => ∃ b, d = .bl b ∧ Q b
def pTru (p : PEx) : PTe := fun ρ Q => p ρ fun d => ∃ b, truD d b ∧ Q b
def pAnd (t u : PTe) : PTe := fun ρ Q => t ρ fun b => if b = true then u ρ Q else Q false
def pOr (t u : PTe) : PTe := fun ρ Q => t ρ fun b => if b = true then Q true else u ρ Q
def pNot (t : PTe) : PTe := fun ρ Q => t ρ fun b => Q (!b)
def pAndV (a b : PEx) : PEx := fun ρ Q => a ρ fun x => ∃ k, x = .bl k ∧ if k = true then b ρ Q else Q (.bl false)
def pOrV (a b : PEx) : PEx := fun ρ Q => a ρ fun x => ∃ k, x = .bl k ∧ if k = true then Q (.bl true) else b ρ Q
def pNotV (a : PEx) : PEx := fun ρ Q => a ρ fun x => ∃ k, x = .bl k ∧ Q (.bl (!k))
def pIf (t : PTe) (a b : PEx) : PEx := fun ρ Q => t ρ fun k => if k = true then a ρ Q else b ρ Q
def pChain (r r' : PR2) (a b e : PEx) : PEx := fun ρ Q => a ρ fun x => b ρ fun y => r x y fun z => ∃ k, z = .bl k ∧ if k = true then e ρ fun u => r' y u Q else Q (.bl false)
section
variable {N : Cn} {w : Pw} {H0 B H H' : Hp} {ow : Ow} {σ : L2.St} {ρ : PEnv}
theorem PostT.then {Q' Q2 : Bool → Prop} {Q : Bool → Hp → Prop} (k : PostT N w H0 B ow H σ ρ Q' Q) (s : Ex w.S H H') (i : ∀ d, Q2 d → Q' d) : PostT N w H0 B ow H' σ ρ Q2 Q := fun v H2 r s2 q => k v H2 r (Ex.trans s s2) (i v q)
theorem Rel.x0 (r : Rel N.K N.c w H0 B ow H σ ρ) : Ex w.S H H := r.exOf (Same.refl _)
theorem sim_test {t : TE} {p : PEx} (h : SimE N t p) : SimT N (tTest t) (pTest p) := by
  intro w H0 B aw ow H σ ρ Q Q' r q k
  refine h w H0 B aw ow H σ ρ _ _ r q fun v d H1 r1 s1 h1 ⟨b, e, q1⟩ => ?_
  subst e; cases h1
  exact ⟨b, rfl, k b H1 r1 s1 q1⟩
theorem truV_of {K : PySem.W.Frag} {c : CEnv} {S : Option Addr} {G : Hp} {v : V} {d : Da} {b : Bool} (h : Rp K c S G v d) (t : truD d b) : TruV K v G b := by
  cases d with
  | non => cases h; exact t
  | bl _ => cases h; exact t
  | int _ => cases h; exact t
  | str _ => cases h; exact ⟨Nat.le_trans t.1 (by decide), t.2⟩
  | lst l =>
    obtain ⟨a, xs, rfl, e, rr⟩ := rpL h
    have := rpsLen rr
    refine .inl ⟨xs, SqL.of e, ?_⟩
    rw [show b = !l.isEmpty from t]
    cases xs <;> cases l <;> first | rfl | (simp at this)
  | tup l =>
    obtain ⟨a, xs, rfl, e, rr⟩ := rpT h
    have := rpsLen rr
    refine .inr (.inl ⟨xs, e, ?_⟩)
    rw [show b = !l.isEmpty from t]
    cases xs <;> cases l <;> first | rfl | (simp at this)
  | _ => exact (show False from t).elim
theorem sim_tru {t : TE} {p : PEx} (h : SimE N t p) : SimT N (tTru N.K t) (pTru p) := by
  intro w H0 B aw ow H σ ρ Q Q' r q k
  refine h w H0 B aw ow H σ ρ _ _ r q fun v d H1 r1 s1 h1 ⟨b, e, q1⟩ => ?_
  exact ⟨b, truV_of (rpS hid_le h1) e, k b H1 r1 s1 q1⟩
theorem sim_and {t u : TT} {p q : PTe} (h : SimT N t p) (h' : SimT N u q) : SimT N (tAnd t u) (pAnd p q) := by
  intro w H0 B aw ow H σ ρ Q Q' r z k
  refine h w H0 B aw ow H σ ρ _ _ r z fun b H1 r1 s1 q1 => ?_
  cases b with
  | true => exact z_iteT (h' w H0 B aw ow H1 σ ρ _ _ r1 (by simpa using q1) (k.then s1 fun _ q => q))
  | false => exact z_iteF (k false H1 r1 s1 (by simpa using q1))
theorem sim_or {t u : TT} {p q : PTe} (h : SimT N t p) (h' : SimT N u q) : SimT N (tOr t u) (pOr p q) := by
  intro w H0 B aw ow H σ ρ Q Q' r z k
  refine h w H0 B aw ow H σ ρ _ _ r z fun b H1 r1 s1 q1 => ?_
  cases b with
  | true => exact z_iteT (k true H1 r1 s1 (by simpa using q1))
  | false => exact z_iteF (h' w H0 B aw ow H1 σ ρ _ _ r1 (by simpa using q1) (k.then s1 fun _ q => q))
theorem sim_not {t : TT} {p : PTe} (h : SimT N t p) : SimT N (tNot t) (pNot p) := by
  intro w H0 B aw ow H σ ρ Q Q' r z k
  exact h w H0 B aw ow H σ ρ _ _ r z fun b H1 r1 s1 q1 => k (!b) H1 r1 s1 q1
theorem sim_orV {t u : TE} {p q : PEx} (h : SimE N t p) (h' : SimE N u q) : SimE N (tOrV t u) (pOrV p q) := by
  intro w H0 B aw ow H σ ρ Q Q' r z k
  refine h w H0 B aw ow H σ ρ _ _ r z fun v d H1 r1 s1 h1 ⟨b, e, q1⟩ => ?_
  subst e; cases h1
  refine ⟨b, rfl, ?_⟩
  cases b with
  | true => exact z_iteT (k _ _ H1 r1 s1 (.bl _) (by simpa using q1))
  | false => exact z_iteF (h' w H0 B aw ow H1 σ ρ _ _ r1 (by simpa using q1) (k.then s1 fun _ q => q))
theorem sim_if {t : TT} {a b : TE} {p : PTe} {pa pb : PEx} (h : SimT N t p) (ha : SimE N a pa) (hb : SimE N b pb) : SimE N (tIf t a b) (pIf p pa pb) := by
  intro w H0 B aw ow H σ ρ Q Q' r z k
  refine h w H0 B aw ow H σ ρ _ _ r z fun b H1 r1 s1 q1 => ?_
  cases b with
  | true => exact z_iteT (ha w H0 B aw ow H1 σ ρ _ _ r1 (by simpa using q1) (k.then s1 fun _ q => q))
  | false => exact z_iteF (hb w H0 B aw ow H1 σ ρ _ _ r1 (by simpa using q1) (k.then s1 fun _ q => q))
theorem sim_chain {r r' : R2} {q q' : PR2} {a b e : TE} {pa pb pe : PEx} (hr : SimR N r q) (hr' : SimR N r' q') (ha : SimE N a pa) (hb : SimE N b pb) (he : SimE N e pe) : SimE N (tChain r r' a b e) (pChain q q' pa pb pe) := by
  intro w H0 B aw ow H σ ρ Q Q' rr h k
  refine ha w H0 B aw ow H σ ρ _ _ rr h fun x dx H1 r1 s1 h1 q1 => ?_
  refine hb w H0 B aw ow H1 σ ρ _ _ r1 q1 fun y dy H2 r2 s2 h2 q2 => ?_
  refine hr w H0 B ow H2 σ ρ x y dx dy _ _ r2 (rpS (s2.dh r1) h1) h2 q2 fun z dz H3 r3 s3 h3 ⟨kk, e3, q3⟩ => ?_
  subst e3; cases h3
  refine ⟨kk, rfl, ?_⟩
  cases kk with
  | true =>
    refine z_iteT (he w H0 B aw ow H3 σ ρ _ _ r3 (by simpa using q3) fun u du H4 r4 s4 h4 q4 => ?_)
    exact hr' w H0 B ow H4 σ ρ y u dy du _ _ r4 (rpS ((Ex.trans s3 s4).dh r2) h2) h4 q4 (k.then (Ex.trans s1 (Ex.trans s2 (Ex.trans s3 s4))) fun _ q => q)
  | false => exact z_iteF (k _ _ H3 r3 (Ex.trans s1 (Ex.trans s2 s3)) (.bl _) (by simpa using q3))
def pFld (a : PEx) (f : Str) : PEx := fun ρ Q => a ρ fun d => ∃ x ks l y, d = .ins x ks l ∧ (ks.zip l).lookup f = some y ∧ Q y
theorem zip_lookup {K : PySem.W.Frag} {c : CEnv} {S : Option Addr} {G : Hp} {f : Str} {y : Da} : ∀ {ks : List Str} {l : List Da} {vs : List V}, RpA K c S G vs l → (ks.zip l).lookup f = some y → ks.contains f = true ∧ ∃ v, (ks.zip vs).lookup f = some v ∧ Rp K c S G v y
  | [], l, vs, _, h => by rw [List.zip_nil_left] at h; cases h
  | k :: ks, [], vs, _, h => by rw [List.zip_nil_right] at h; cases h
  | k :: ks, d :: l, vs, r, h => by
    obtain ⟨v, ws, rfl, a, b⟩ := rpsC r
    rw [List.zip_cons_cons, List.lookup_cons] at h ⊢
    by_cases e : (f == k) = true
    · rw [e] at h ⊢
      cases h
      exact ⟨by rw [List.contains_cons, e]; rfl, v, rfl, a⟩
    · have e : (f == k) = false := by simpa using e
      rw [e] at h ⊢
      obtain ⟨h1, u, h2, h3⟩ := zip_lookup b h
      exact ⟨by rw [List.contains_cons, h1, Bool.or_true], u, h2, h3⟩
theorem zip_lookup0 {f : Str} : ∀ {ks : List Str} {vs : List V}, ks.contains f = false → (ks.zip vs).lookup f = none
  | [], _, _ => by rw [List.zip_nil_left]; rfl
  | k :: ks, [], _ => by rw [List.zip_nil_right]; rfl
  | k :: ks, v :: vs, h => by
    rw [List.contains_cons, Bool.or_eq_false_iff] at h
    rw [List.zip_cons_cons, List.lookup_cons, h.1]
    exact zip_lookup0 h.2
theorem sim_fld {a : TE} {p : PEx} {f : Str} (h : SimE N a p) : SimE N (tFld N.K a f) (pFld p f) := by
  intro w H0 B aw ow H σ ρ Q Q' r z k
  refine h w H0 B aw ow H σ ρ _ _ r z fun v d H1 r1 s1 h1 ⟨x, ks, l, y, e, lk, q⟩ => ?_
  subst e
  obtain ⟨p, dx, xs, rfl, ok, e, hl, ra⟩ := rpO h1
  obtain ⟨hc, u, lu, ru⟩ := zip_lookup ra lk
  exact z_fld ok (hid_le _ _ e) lu hc (k _ _ H1 r1 s1 ru q)
abbrev POp := PEnv → (Option Int → Prop) → Prop
def SimO (N : Cn) (t : TO) (p : POp) : Prop := ∀ w H0 B, AdW N w H0 B → ∀ ow H σ ρ Q (Q' : Option Int → Prop), Rel N.K N.c w H0 B ow H σ ρ → p ρ Q' → (∀ i H', Rel N.K N.c w H0 B ow H' σ ρ → Ex w.S H H' → Q' i → Q i H') → t σ H Q
def pNoPart : POp := fun _ Q => Q none
def pPart (a : PEx) : POp := fun ρ Q => a ρ fun d => ∃ i, d = .int i ∧ Q (some i)
theorem sim_noPart : SimO N tNoPart pNoPart := fun w H0 B aw ow H σ ρ Q Q' r h k => k none H r r.x0 h
theorem sim_part {a : TE} {p : PEx} (h : SimE N a p) : SimO N (tPart a) (pPart p) := by
  intro w H0 B aw ow H σ ρ Q Q' r z k
  refine h w H0 B aw ow H σ ρ _ _ r z fun v d H1 r1 s1 h1 ⟨i, e, q⟩ => ?_
  subst e; cases h1
  exact ⟨i, rfl, k _ H1 r1 s1 q⟩
def cutD (xs : List Da) (lo hi : Option Int) : List Da := (xs.drop (HT.sIx xs.length 0 lo)).take (HT.sIx xs.length xs.length hi - HT.sIx xs.length 0 lo)
def slD (d : Da) (lo hi : Option Int) (Q : Da → Prop) : Prop := match d with
  | .lst xs => Q (.lst (cutD xs lo hi))
  | .tup xs => Q (.tup (cutD xs lo hi))
  | .str z => z.length ≤ 100000 ∧ Q (.str (cutS z lo hi))
  | _ => False
def pSl (a : PEx) (l h : POp) : PEx := fun ρ Q => a ρ fun d => l ρ fun lo => h ρ fun hi => slD d lo hi Q
theorem rps_cut {K : PySem.W.Frag} {c : CEnv} {S : Option Addr} {G : Hp} {vs : List V} {l : List Da} {lo hi : Option Int} (r : RpA K c S G vs l) : RpA K c S G (cutV vs lo hi) (cutD l lo hi) := by
  unfold cutV cutD
  rw [rpsLen r]
  exact rpsTake _ (rpsDrop _ r)
theorem sim_sl {a : TE} {tl th : TO} {p : PEx} {pl ph : POp} (ha : SimE N a p) (hl : SimO N tl pl) (hh : SimO N th ph) : SimE N (tSl (uSl N.K) a tl th) (pSl p pl ph) := by
  intro w H0 B aw ow H σ ρ Q Q' r z k
  refine ha w H0 B aw ow H σ ρ _ _ r z fun v d H1 r1 s1 h1 q1 => ?_
  refine hl w H0 B aw ow H1 σ ρ _ _ r1 q1 fun lo H2 r2 s2 q2 => ?_
  refine hh w H0 B aw ow H2 σ ρ _ _ r2 q2 fun hi H3 r3 s3 q3 => ?_
  have h3 := rpS ((Ex.trans s2 s3).dh r1) h1
  have k3 := k.then (Ex.trans s1 (Ex.trans s2 s3)) fun _ q => q
  cases d <;> first | exact q3.elim | skip
  · cases h3; exact ⟨Nat.le_trans q3.1 (by decide), k3.flat r3 (.str _) q3.2⟩
  · have h3' := h3
    obtain ⟨p, xs, rfl, e, rr⟩ := rpT h3
    refine .inr ⟨p, xs, rfl, Same.sqT hid_le e, fun hw => ?_, fun _ l hl => k3.newT r3 (rps_cut rr) q3 hl⟩
    refine k3.flat r3 h3' ?_
    rename_i ds
    have : cutD ds lo hi = ds := by
      unfold cutD
      rw [← rpsLen rr, hw.1, hw.2, List.drop_zero, Nat.sub_zero, rpsLen rr, List.take_length]
    rw [← this]; exact q3
  · obtain ⟨p, xs, rfl, e, rr⟩ := rpL h3
    exact z_slL (SqL.of (hid_le _ _ e)) fun l hl => k3.newL r3 (rps_cut rr) q3 hl
def SpSim (K : PySem.W.Frag) (c : CEnv) (sp : Sp) (ps : PSp) : Prop := ∀ (S : Option (Addr × Addr)) (O : List Addr) (H : Hp) (vs : List V) (ds : List Da) (Q : VK) (E : XK) (Q' : Da → Prop) (E' : Str → Prop),
  Occ H O ∧ LamX.Tabs c.tb H → (∀ st L, S = some (st, L) → Draw H st L ∧ st ∈ O) → RpA K c (S.map (·.1)) (hid H O) vs ds → ps ds Q' E' → (∀ v d H', ExC c S H H' → Rp K c (S.map (·.1)) (hid H' O) v d → Q' d → Q v H') → (∀ x H', ExC c S H H' → E' x → E (.ref (c.cls x)) none H') → sp vs H Q E
def lift (K : PySem.W.Frag) (c : CEnv) (ps : PSp) : Sp := fun vs H Q E => ∃ (S : Option (Addr × Addr)) (O : List Addr) (ds : List Da) (Q' : Da → Prop) (E' : Str → Prop),
  (Occ H O ∧ LamX.Tabs c.tb H) ∧ (∀ st L, S = some (st, L) → Draw H st L ∧ st ∈ O) ∧ RpA K c (S.map (·.1)) (hid H O) vs ds ∧ ps ds Q' E' ∧ (∀ v d H', ExC c S H H' → Rp K c (S.map (·.1)) (hid H' O) v d → Q' d → Q v H') ∧ (∀ x H', ExC c S H H' → E' x → E (.ref (c.cls x)) none H')
theorem spSim_lift {K : PySem.W.Frag} {c : CEnv} {ps : PSp} : SpSim K c (lift K c ps) ps := fun S O H vs ds Q E Q' E' a b r p q e => ⟨S, O, ds, Q', E', a, b, r, p, q, e⟩
theorem call_go {sp : Sp} {ps : PSp} (hs : SpSim N.K N.c sp ps) {vs : List V} {ds : List Da} {Q : VK} {E : XK} {Q' : Da → Prop} {E' : Str → Prop} (r : Rel N.K N.c w H0 B ow H σ ρ) (h : RpA N.K N.c w.st (dh w ow H) vs ds) (p : ps ds Q' E') (k : Post N w H0 B ow H σ ρ Q' Q)
    (e : ∀ x H', Rel N.K N.c w H0 B ow H' σ ρ → E' x → E (.ref (N.c.cls x)) none H') : sp vs H Q E :=
  hs w.S (hl w ow) H vs ds Q E Q' E' ⟨r.occ, r.tb⟩ (fun st L z => ⟨(r.dr st L z).1, r.stO st L z⟩) h p (fun v d H' x rv q => k v d H' (r.ex x.1 x.2) x.1 rv q) (fun x H' ex z => e x H' (r.ex ex.1 ex.2) z)
def pCal (ps : PSp) (t : PAr) : PEx := fun ρ Q => t ρ fun ds => ps ds Q fun _ => False
def pCalS (Wp : WP) (ps : PSp) (t : PAr) : PEx := fun ρ Q => t ρ fun ds => ps ds Q fun x => Wp x ρ
theorem sim_cal {sp : Sp} {ps : PSp} {t : TA} {pt : PAr} (hs : SpSim N.K N.c sp ps) (ht : SimA N t pt) : SimE N (tCal sp t) (pCal ps pt) := by
  intro w H0 B aw ow H σ ρ Q Q' r z k
  refine ht w H0 B aw ow H σ ρ _ _ r z fun vs ds H1 r1 s1 h1 q1 => ?_
  exact call_go hs r1 h1 q1 (k.then s1 fun _ q => q) (fun _ _ _ f => f.elim)
theorem sim_calS {sp : Sp} {ps : PSp} {t : TA} {pt : PAr} (hs : SpSim N.K N.c sp ps) (ht : SimA N t pt) : SimE N (tCallS sp (WE N.W) t) (pCalS N.Wp ps pt) := by
  intro w H0 B aw ow H σ ρ Q Q' r z k
  refine ht w H0 B aw ow H σ ρ _ _ r z fun vs ds H1 r1 s1 h1 q1 => ?_
  exact call_go hs r1 h1 q1 (k.then s1 fun _ q => q) (fun x H' r' f => aw x ow H' σ ρ r' f)
def pMt (x m : Str) (ps : PSp) (a : PEx) (t : PAr) : PEx := fun ρ Q => a ρ fun d => ∃ ks l, d = .ins x ks l ∧ ks.contains m = false ∧ t ρ fun ds => ps (d :: ds) Q fun _ => False
def pMtX (Wp : WP) (x m : Str) (ps : PSp) (a : PEx) (t : PAr) : PEx := fun ρ Q => a ρ fun d => ∃ ks l, d = .ins x ks l ∧ ks.contains m = false ∧ t ρ fun ds => ps (d :: ds) Q fun x => Wp x ρ
def pPr (x : Str) (ps : PSp) (a : PEx) : PEx := fun ρ Q => a ρ fun d => ∃ ks l, d = .ins x ks l ∧ ps [d] Q fun _ => False
theorem sim_mt {x m : Str} {sp : Sp} {ps : PSp} {a : TE} {t : TA} {p : PEx} {pt : PAr} (hs : SpSim N.K N.c sp ps) (ha : SimE N a p) (ht : SimA N t pt) : SimE N (tMt N.c x m sp a t) (pMt x m ps p pt) := by
  intro w H0 B aw ow H σ ρ Q Q' r z k
  refine ha w H0 B aw ow H σ ρ _ _ r z fun v d H1 r1 s1 h1 ⟨ks, l, e, hc, q1⟩ => ?_
  subst e
  have h1' := h1
  obtain ⟨b, dx, xs, rfl, ok, e, hl, ra⟩ := rpO h1
  refine ⟨b, dx, _, rfl, hid_le _ _ e, zip_lookup0 hc, ?_⟩
  refine ht w H0 B aw ow H1 σ ρ _ _ r1 q1 fun vs ds H2 r2 s2 h2 q2 => ?_
  exact call_go hs r2 (.cons (rpS (s2.dh r1) h1') h2) q2 (k.then (Ex.trans s1 s2) fun _ q => q) (fun _ _ _ f => f.elim)
def SpSimI (K : PySem.W.Frag) (c : CEnv) (x : Str) (gs : List Str) (sp : Sp) (ps : PSi) : Prop := ∀ (S : Option (Addr × Addr)) (O : List Addr) (H : Hp) (p dx : Addr) (vs : List V) (ds : List Da) (Q : VK) (E : XK) (Q' : List Da → Prop) (E' : Str → Prop),
  Occ H O ∧ LamX.Tabs c.tb H → (∀ st L, S = some (st, L) → Draw H st L ∧ st ∈ O ∧ p ≠ st ∧ p ≠ L) → ClsOk K c x gs → H p = some (.ins (c.cls x) dx []) → p ∉ O → RpA K c (S.map (·.1)) (hid H (p :: O)) vs ds → ps ds Q' E' →
  (∀ l H', (∀ a o, (∀ st L, S = some (st, L) → a ≠ st) → a ≠ p → Nt o → H a = some o → H' a = some o) → (∀ st L, S = some (st, L) → Draw H' st L) ∧ LamX.Tabs c.tb H' → Rp K c (S.map (·.1)) (hid H' O) (.ref p) (.ins x gs l) → (∃ d2 xs, H' p = some (.ins (c.cls x) d2 (gs.zip xs)) ∧ l.length = gs.length ∧ RpA K c (S.map (·.1)) (hid H' (p :: O)) xs l) → Q' l → Q .non H') →
  (∀ y H', (∀ a o, (∀ st L, S = some (st, L) → a ≠ st) → a ≠ p → Nt o → H a = some o → H' a = some o) → (∀ st L, S = some (st, L) → Draw H' st L) ∧ LamX.Tabs c.tb H' → E' y → E (.ref (c.cls y)) none H') → sp (.ref p :: vs) H Q E
def liftI (K : PySem.W.Frag) (c : CEnv) (x : Str) (gs : List Str) (ps : PSi) : Sp := fun us H Q E => ∃ (S : Option (Addr × Addr)) (O : List Addr) (p dx : Addr) (vs : List V) (ds : List Da) (Q' : List Da → Prop) (E' : Str → Prop),
  us = .ref p :: vs ∧ (Occ H O ∧ LamX.Tabs c.tb H) ∧ (∀ st L, S = some (st, L) → Draw H st L ∧ st ∈ O ∧ p ≠ st ∧ p ≠ L) ∧ ClsOk K c x gs ∧ H p = some (.ins (c.cls x) dx []) ∧ p ∉ O ∧ RpA K c (S.map (·.1)) (hid H (p :: O)) vs ds ∧ ps ds Q' E' ∧
  (∀ l H', (∀ a o, (∀ st L, S = some (st, L) → a ≠ st) → a ≠ p → Nt o → H a = some o → H' a = some o) → (∀ st L, S = some (st, L) → Draw H' st L) ∧ LamX.Tabs c.tb H' → Rp K c (S.map (·.1)) (hid H' O) (.ref p) (.ins x gs l) → (∃ d2 xs, H' p = some (.ins (c.cls x) d2 (gs.zip xs)) ∧ l.length = gs.length ∧ RpA K c (S.map (·.1)) (hid H' (p :: O)) xs l) → Q' l → Q .non H') ∧
  (∀ y H', (∀ a o, (∀ st L, S = some (st, L) → a ≠ st) → a ≠ p → Nt o → H a = some o → H' a = some o) → (∀ st L, S = some (st, L) → Draw H' st L) ∧ LamX.Tabs c.tb H' → E' y → E (.ref (c.cls y)) none H')
theorem spSimI_lift {K : PySem.W.Frag} {c : CEnv} {x : Str} {gs : List Str} {ps : PSi} : SpSimI K c x gs (liftI K c x gs ps) ps := fun S O H p dx vs ds Q E Q' E' a b ok hp np r z q e => ⟨S, O, p, dx, vs, ds, Q', E', rfl, a, b, ok, hp, np, r, z, q, e⟩
theorem make_go {x : Str} {gs : List Str} {sp : Sp} {ps : PSi} (hs : SpSimI N.K N.c x gs sp ps) {vs : List V} {ds : List Da} {Q : VK} {E : XK} {Q' : List Da → Prop} {E' : Str → Prop} {p dx : Addr} (ok : ClsOk N.K N.c x gs) (r : Rel N.K N.c w H0 B ow H σ ρ) (h : RpA N.K N.c w.st (dh w ow H) vs ds)
    (hp : H p = none) (hdx : H dx = none) (ne : dx ≠ p) (z : ps ds Q' E') (k : Post N w H0 B ow H σ ρ (fun d => ∃ l, d = .ins x gs l ∧ Q' l) Q) (e : ∀ y H', Rel N.K N.c w H0 B ow H' σ ρ → E' y → E (.ref (N.c.cls y)) none H') :
    sp (.ref p :: vs) (upd (upd H dx (.own p)) p (.ins (N.c.cls x) dx [])) (fun v H2 => v = .non ∧ Q (.ref p) H2) E := by
  have hp2 : upd H dx (.own p) p = none := by rw [upd_ne ne.symm]; exact hp
  have s1 : Same H (upd (upd H dx (.own p)) p (.ins (N.c.cls x) dx [])) := Same.new hp2 (Same.new hdx (Same.refl H))
  have back : ∀ H', (∀ a o, (∀ st L, w.S = some (st, L) → a ≠ st) → a ≠ p → Nt o → upd (upd H dx (.own p)) p (.ins (N.c.cls x) dx []) a = some o → H' a = some o) → (∀ st L, w.S = some (st, L) → Draw H' st L) → Ex w.S H H' := fun H' h1 h2 => ⟨fun a o n nt ea => h1 a o n (fun z => by subst z; rw [hp] at ea; cases ea) nt (s1 a o ea), h2⟩
  refine hs w.S (hl w ow) _ p dx vs ds _ E Q' E' ⟨r.occ.same s1, r.tb.ext s1⟩ (fun st L q => ⟨(r.dr st L q).1.same s1, r.stO st L q, Draw.ne hp (r.dr st L q).1, Draw.neL hp (r.dr st L q).1⟩) ok upd_same (r.occ.no hp) (rpsS (hid_ofS hp s1) h) z (fun l H' h1 h2 rp _ q => ⟨rfl, ?_⟩) (fun y H' h1 h2 q => e y H' (r.ex (back H' h1 h2.1) h2.2) q)
  exact k _ _ H' (r.ex (back H' h1 h2.1) h2.2) (back H' h1 h2.1) rp ⟨l, rfl, q⟩
def pMk (x : Str) (gs : List Str) (ps : PSi) (t : PAr) : PEx := fun ρ Q => t ρ fun ds => ps ds (fun l => Q (.ins x gs l)) fun _ => False
def pMkX (Wp : WP) (x : Str) (gs : List Str) (ps : PSi) (t : PAr) : PEx := fun ρ Q => t ρ fun ds => ps ds (fun l => Q (.ins x gs l)) fun y => Wp y ρ
theorem sim_mk {x : Str} {gs : List Str} {sp : Sp} {ps : PSi} {t : TA} {pt : PAr} (hs : SpSimI N.K N.c x gs sp ps) (ht : SimA N t pt) : SimE N (tMk N.K N.c x gs sp t) (pMk x gs ps pt) := by
  intro w H0 B aw ow H σ ρ Q Q' r z k
  refine ht w H0 B aw ow H σ ρ _ _ r z fun vs ds H1 r1 s1 h1 q1 ok p dx hp hdx ne => ?_
  exact make_go hs ok r1 h1 hp hdx ne q1 (k.then s1 fun d ⟨l, e, q⟩ => e ▸ q) (fun _ _ _ f => f.elim)
def cstD : Cst → Da
  | .v .non => .non | .v (.bl b) => .bl b | .v (.int i) => .int i | .v (.str x) => .str x | .v _ => .non
  | .e => .tup []
def cstOk : Cst → Bool
  | .v .non => true | .v (.bl b) => true | .v (.int i) => true | .v (.str x) => true | .v _ => false
  | .e => true
theorem cst_rp {K : PySem.W.Frag} {c : CEnv} {S : Option Addr} {G : Hp} : ∀ {ms : List Cst} {vs : List V}, All2 (Cst.Is K) ms vs → ms.all cstOk = true → RpA K c S G vs (ms.map cstD)
  | [], _, h, _ => by cases h; exact .nil
  | m :: ms, _, h, o => by
    rw [List.all_cons, Bool.and_eq_true] at o
    cases h with
    | cons h t =>
      refine .cons ?_ (cst_rp t o.2)
      cases m with
      | v y =>
        have h : _ = y := h
        rw [h]
        clear h
        cases y <;> first | (cases o.1; done) | (constructor; done)
      | e => obtain ⟨T, rfl, e⟩ := h; exact .tup (.inr ⟨e G, rfl⟩) .nil
theorem gSel_rp {K : PySem.W.Frag} {c : CEnv} {S : Option Addr} {G : Hp} (sel : List (Bool × Nat)) {vs mz zs : List V} {ds dm dz : List Da} (h1 : RpA K c S G vs ds) (h2 : RpA K c S G mz dm) (h3 : RpA K c S G zs dz) : RpA K c S G (gSel sel vs mz zs) (gSel sel ds dm dz) := by
  unfold gSel
  refine rpsApp h1 ?_
  have one : ∀ {xs : List V} {as : List Da} (i : Nat), RpA K c S G xs as → (xs[i]? = none ∧ as[i]? = none) ∨ ∃ x a, xs[i]? = some x ∧ as[i]? = some a ∧ Rp K c S G x a := by
    intro xs as i r
    cases e : xs[i]? with
    | none =>
      refine .inl ⟨rfl, ?_⟩
      rw [List.getElem?_eq_none_iff] at e ⊢
      rw [← rpsLen r]; exact e
    | some x => obtain ⟨a, ea, ra⟩ := rpsGetV r e; exact .inr ⟨x, a, rfl, ea, ra⟩
  induction sel with
  | nil => exact .nil
  | cons z t ih =>
    obtain ⟨b, i⟩ := z
    cases b with
    | true =>
      rcases one i h3 with ⟨e1, e2⟩ | ⟨x, a, e1, e2, r⟩
      · simp only [List.filterMap_cons, if_pos, e1, e2]; exact ih
      · simp only [List.filterMap_cons, if_pos, e1, e2]; exact .cons r ih
    | false =>
      rcases one i h2 with ⟨e1, e2⟩ | ⟨x, a, e1, e2, r⟩
      · simp only [List.filterMap_cons, Bool.false_eq_true, if_false, e1, e2]; exact ih
      · simp only [List.filterMap_cons, Bool.false_eq_true, if_false, e1, e2]; exact .cons r ih
def selD (sel : List (Bool × Nat)) (ms : List Cst) (ds dz : List Da) : List Da := gSel sel ds (ms.map cstD) dz
def pMkK (Wp : WP) (x : Str) (gs : List Str) (n nk : Nat) (ms : List Cst) (sel : List (Bool × Nat)) (ps : PSi) (t tk : PAr) : PEx := fun ρ Q => t ρ fun ds => tk ρ fun dz => ds.length = n ∧ dz.length = nk ∧ ps (selD sel ms ds dz) (fun l => Q (.ins x gs l)) fun y => Wp y ρ
theorem sim_mkK {x : Str} {gs : List Str} {n nk : Nat} {ms : List Cst} {sel : List (Bool × Nat)} {sp : Sp} {ps : PSi} {t tk : TA} {pt pk : PAr} (hs : SpSimI N.K N.c x gs sp ps) (ht : SimA N t pt) (hk : SimA N tk pk) (hm : ms.all cstOk = true := by rfl) : SimE N (tMkK N.K N.c x gs n nk ms sel sp N.W t tk) (pMkK N.Wp x gs n nk ms sel ps pt pk) := by
  intro w H0 B aw ow H σ ρ Q Q' r z k
  refine ht w H0 B aw ow H σ ρ _ _ r z fun vs ds H1 r1 s1 h1 q1 => ?_
  refine hk w H0 B aw ow H1 σ ρ _ _ r1 q1 fun zs dz H2 r2 s2 h2 q2 => ?_
  obtain ⟨l1, l2, q2⟩ := q2
  refine ⟨(rpsLen h1).trans l1, (rpsLen h2).trans l2, fun ok us hus p dx hp hdx ne => ?_⟩
  have rr := gSel_rp sel (rpsS (s2.dh r1) h1) (cst_rp (c := N.c) (S := w.st) (G := dh w ow H2) hus hm) h2
  rw [show gSel sel (V.ref p :: vs) us zs = V.ref p :: gSel sel vs us zs from rfl]
  exact make_go hs ok r2 rr hp hdx ne q2 (k.then (Ex.trans s1 s2) fun d ⟨l, e, q⟩ => e ▸ q) (fun y H' r' f => aw y ow H' σ ρ r' f)
end

abbrev PTgs := List Da → PEnv → (PEnv → Prop) → Prop
def SimGs (N : Cn) (g : TGs) (sl : List Nat) (pg : PTgs) : Prop := ∀ w H0 B ow H σ ρ vs ds Q Q', Rel N.K N.c w H0 B ow H σ ρ → RpA N.K N.c w.st (dh w ow H) vs ds → pg ds ρ Q' → (∀ σ' ρ', Rel N.K N.c w H0 B ow H σ' ρ' → (∀ us, (∀ i ∈ sl, i ∈ us) → wipe σ' us = wipe σ us) → Q' ρ' → Q σ' H) → g vs σ H Q
def pgName (i : Nat) : PTg := fun d ρ Q => Q (ρ.set i (some (.d d)))
def pgNil : PTgs := fun ds ρ Q => ds = [] ∧ Q ρ
def pgCons (g : PTg) (t : PTgs) : PTgs := fun ds ρ Q => ∃ d r, ds = d :: r ∧ g d ρ fun ρ' => t r ρ' Q
def pgTup (n : Nat) (t : PTgs) : PTg := fun d ρ Q => ∃ ds, d = .tup ds ∧ ds.length = n ∧ t ds ρ Q
theorem wipe_mem {σ : L2.St} {i : Nat} {x : Option V} : ∀ {us : List Nat}, i ∈ us → wipe (σ.set i x) us = wipe σ us
  | [], h => by cases h
  | u :: us, h => by
    unfold wipe
    by_cases e : i ∈ us
    · rw [wipe_mem e]
    · rcases List.mem_cons.mp h with rfl | h
      · have : ∀ us : List Nat, i ∉ us → wipe (σ.set i x) us = (wipe σ us).set i x := by
          intro us
          induction us with
          | nil => intro _; rfl
          | cons v vs ih =>
            intro hv
            unfold wipe
            rw [ih fun z => hv (List.mem_cons_of_mem _ z), List.set_comm _ _ (fun z => hv (by subst z; exact List.mem_cons_self ..))]
        rw [this us e, List.set_set]
      · exact absurd h e
theorem wipe_wipe {σ : L2.St} {us : List Nat} : wipe (wipe σ us) us = wipe σ us := by
  have : ∀ (vs : List Nat), (∀ v ∈ vs, v ∈ us) → wipe (wipe σ vs) us = wipe σ us := by
    intro vs
    induction vs with
    | nil => intro _; rfl
    | cons v vs ih =>
      intro h
      rw [show wipe σ (v :: vs) = (wipe σ vs).set v none from rfl, wipe_mem (h v (List.mem_cons_self ..)), ih fun u hu => h u (List.mem_cons_of_mem _ hu)]
  exact this us fun _ h => h
section
variable {N : Cn} {w : Pw} {H0 B H H' : Hp} {ow : Ow} {σ : L2.St} {ρ : PEnv}
theorem sim_gName (i : Nat) : SimG N (gName i) [i] (pgName i) := by
  intro w H0 B ow H σ ρ v d Q Q' r h q k
  exact k _ _ (r.set i h) (fun us hu => wipe_mem (hu i (List.mem_cons_self ..))) q
theorem sim_gNil : SimGs N gNil [] pgNil := by
  intro w H0 B ow H σ ρ vs ds Q Q' r h q k
  obtain ⟨rfl, q⟩ := q
  exact ⟨rps0 h, k _ _ r (fun _ _ => rfl) q⟩
theorem sim_gCons {g : TG} {sl sl2 : List Nat} {pg : PTg} {t : TGs} {pt : PTgs} (hg : SimG N g sl pg) (ht : SimGs N t sl2 pt) : SimGs N (gCons g t) (sl ++ sl2) (pgCons pg pt) := by
  intro w H0 B ow H σ ρ vs ds Q Q' r h q k
  obtain ⟨d, ds', rfl, q⟩ := q
  obtain ⟨v, ws, rfl, a, b⟩ := rpsC h
  refine ⟨v, ws, rfl, hg w H0 B ow H σ ρ v d _ _ r a q fun σ1 ρ1 r1 w1 q1 => ?_⟩
  exact ht w H0 B ow H σ1 ρ1 ws ds' _ _ r1 b q1 fun σ2 ρ2 r2 w2 q2 => k σ2 ρ2 r2 (fun us hu => (w2 us fun i hi => hu i (List.mem_append_right _ hi)).trans (w1 us fun i hi => hu i (List.mem_append_left _ hi))) q2
theorem sim_gTup {n : Nat} {t : TGs} {sl : List Nat} {pt : PTgs} (ht : SimGs N t sl pt) : SimG N (gTup N.K n t) sl (pgTup n pt) := by
  intro w H0 B ow H σ ρ v d Q Q' r h q k
  obtain ⟨ds, rfl, hl, q⟩ := q
  obtain ⟨a, xs, rfl, e, rr⟩ := rpT h
  exact ⟨a, xs, rfl, Same.sqT hid_le e, (rpsLen rr).trans hl, ht w H0 B ow H σ ρ xs ds _ _ r rr q k⟩
structure JOk (K : PySem.W.Frag) (c : CEnv) (S : Option Addr) (J : It) (G : Hp) (items : List Da) : Prop where
  stop : ∀ i H, items.length = i → Same G H → J.stop i H
  go : ∀ i H, i < items.length → Same G H → J.go i H
  yld : ∀ i H x H' d, items[i]? = some d → Same G H → J.yld i H x H' → Same H H' ∧ ∀ O, Occ H O → Same G (hid H O) → Rp K c S (hid H' O) x d
abbrev PIt := PEnv → (List Da → Prop) → Prop
def SimI (N : Cn) (wi : TI) (p : PIt) : Prop := ∀ w H0 B, AdW N w H0 B → ∀ ow H σ ρ (R : It → Hp → Prop) Q', Rel N.K N.c w H0 B ow H σ ρ → p ρ Q' → (∀ J items H', Rel N.K N.c w H0 B ow H' σ ρ → Ex w.S H H' → JOk N.K N.c w.st J (dh w ow H') items → Q' items → R J H') → wi σ H R
theorem jok_l {K : PySem.W.Frag} {c : CEnv} {S : Option Addr} {G : Hp} {a : Addr} {xs : List V} {ds : List Da} (e : G a = some (.lst xs)) (r : RpA K c S G xs ds) : JOk K c S (Itl K a) G ds := by
  have hl := rpsLen r
  refine ⟨fun i H h s => ⟨xs, SqL.of (s _ _ e), by omega⟩, fun i H h s => ?_, fun i H x H' d hd s y => ?_⟩
  · have h1 : i < xs.length := by omega
    exact ⟨xs, xs[i], SqL.of (s _ _ e), by simp [h1]⟩
  · obtain ⟨rfl, f⟩ := y
    obtain ⟨v, hv, rv⟩ := rpsGet r hd
    have := f xs (SqL.of (s _ _ e))
    rw [hv] at this
    cases this
    exact ⟨Same.refl _, fun O _ t => rpS t rv⟩
theorem jok_t {K : PySem.W.Frag} {c : CEnv} {S : Option Addr} {G : Hp} {a : Addr} {xs : List V} {ds : List Da} (e : SqT K G a xs) (r : RpA K c S G xs ds) : JOk K c S (Itt K a) G ds := by
  have hl := rpsLen r
  refine ⟨fun i H h s => ⟨xs, Same.sqT s e, by omega⟩, fun i H h s => ?_, fun i H x H' d hd s y => ?_⟩
  · have h1 : i < xs.length := by omega
    exact ⟨xs, xs[i], Same.sqT s e, by simp [h1]⟩
  · obtain ⟨rfl, f⟩ := y
    obtain ⟨v, hv, rv⟩ := rpsGet r hd
    have := f xs (Same.sqT s e)
    rw [hv] at this
    cases this
    exact ⟨Same.refl _, fun O _ t => rpS t rv⟩
def piSq (p : PEx) : PIt := fun ρ Q => p ρ fun d => ∃ l, (d = .lst l ∨ d = .tup l) ∧ Q l
theorem sim_iSq {t : TE} {p : PEx} (h : SimE N t p) : SimI N (iSq N.K t) (piSq p) := by
  intro w H0 B aw ow H σ ρ R Q' r q k
  refine h w H0 B aw ow H σ ρ _ _ r q fun v d H1 r1 x1 h1 ⟨l, e, q1⟩ => ?_
  rcases e with rfl | rfl
  · obtain ⟨a, xs, rfl, e, rr⟩ := rpL h1
    exact ⟨a, rfl, .inl ⟨⟨xs, SqL.of (hid_le _ _ e)⟩, k _ _ H1 r1 x1 (jok_l e rr) q1⟩⟩
  · obtain ⟨a, xs, rfl, e, rr⟩ := rpT h1
    exact ⟨a, rfl, .inr ⟨⟨xs, Same.sqT hid_le e⟩, k _ _ H1 r1 x1 (jok_t e rr) q1⟩⟩
def rngD (lo : Int) (n : Nat) : List Da := (List.range n).map fun (i : Nat) => Da.int (lo + (i : Int))
theorem rngD_len {lo : Int} {n : Nat} : (rngD lo n).length = n := by unfold rngD; rw [List.length_map, List.length_range]
theorem rngD_get {lo : Int} {n i : Nat} {d : Da} (h : (rngD lo n)[i]? = some d) : i < n ∧ d = .int (lo + (i : Int)) := by
  unfold rngD at h
  rw [List.getElem?_map] at h
  by_cases l : i < n
  · rw [List.getElem?_range l] at h
    cases h; exact ⟨l, rfl⟩
  · rw [List.getElem?_eq_none (by simpa using l)] at h; cases h
def piRng1 (p : PAr) : PIt := fun ρ Q => p ρ fun ds => ∃ j : Int, ds = [.int j] ∧ -1000000 ≤ j ∧ j ≤ 1000000 ∧ Q (rngD 0 j.toNat)
def piRng2 (p : PAr) : PIt := fun ρ Q => p ρ fun ds => ∃ i j : Int, ds = [.int i, .int j] ∧ (-1000000 ≤ i ∧ i ≤ 1000000 ∧ -1000000 ≤ j ∧ j ≤ 1000000) ∧ Q (rngD i (j - i).toNat)
theorem jok_r {K : PySem.W.Frag} {c : CEnv} {S : Option Addr} {G : Hp} {lo : Int} {n : Nat} : JOk K c S (Itr lo n) G (rngD lo n) := by
  refine ⟨fun i H h s => by rw [rngD_len] at h; exact Nat.le_of_eq h, fun i H h s => by rw [rngD_len] at h; exact h, fun i H x H' d hd s y => ?_⟩
  obtain ⟨rfl, rfl⟩ := y
  obtain ⟨_, rfl⟩ := rngD_get hd
  exact ⟨Same.refl _, fun O _ t => .int _⟩
theorem sim_iRng1 {t : TA} {p : PAr} (h : SimA N t p) : SimI N (iRng1 t) (piRng1 p) := by
  intro w H0 B aw ow H σ ρ R Q' r q k
  refine h w H0 B aw ow H σ ρ _ _ r q fun vs ds H1 r1 x1 h1 ⟨j, e, b1, b2, q1⟩ => ?_
  subst e
  obtain ⟨v, rfl, a⟩ := rps1 h1
  cases a
  exact ⟨j, rfl, by omega, by omega, k _ _ H1 r1 x1 jok_r q1⟩
theorem sim_iRng2 {t : TA} {p : PAr} (h : SimA N t p) : SimI N (iRng2 t) (piRng2 p) := by
  intro w H0 B aw ow H σ ρ R Q' r q k
  refine h w H0 B aw ow H σ ρ _ _ r q fun vs ds H1 r1 x1 h1 ⟨i, j, e, b1, q1⟩ => ?_
  subst e
  obtain ⟨v, u, rfl, a, b⟩ := rps2 h1
  cases a; cases b
  exact ⟨i, j, rfl, by omega, k _ _ H1 r1 x1 jok_r q1⟩
def zipD (a b : List Da) : List Da := (a.zip b).map fun z => .tup [z.1, z.2]
theorem zipD_get {a b : List Da} {i : Nat} {d : Da} (h : (zipD a b)[i]? = some d) : ∃ x y, a[i]? = some x ∧ b[i]? = some y ∧ d = .tup [x, y] := by
  unfold zipD at h
  rw [List.getElem?_map] at h
  cases e : (a.zip b)[i]? with
  | none => rw [e] at h; cases h
  | some z =>
    rw [e] at h
    obtain ⟨h1, h2⟩ := List.getElem?_zip_eq_some.mp e
    exact ⟨z.1, z.2, h1, h2, (Option.some.inj h).symm⟩
theorem zipD_len {a b : List Da} : (zipD a b).length = min a.length b.length := by unfold zipD; rw [List.length_map, List.length_zip]
def piZip (p : PAr) : PIt := fun ρ Q => p ρ fun ds => ∃ a b, (ds = [.lst a, .lst b] ∨ ds = [.tup a, .tup b]) ∧ Q (zipD a b)
theorem rp_pair {K : PySem.W.Frag} {c : CEnv} {S : Option Addr} {H : Hp} {T : Addr} {x y : V} {d e : Da} {O : List Addr} (hT : H T = none) (oc : Occ H O) (h1 : Rp K c S (hid H O) x d) (h2 : Rp K c S (hid H O) y e) : Rp K c S (hid (upd H T (.tup [x, y])) O) (.ref T) (.tup [d, e]) :=
  .tup (SqD.of (hid_lk (oc.no hT) upd_same)) (.cons (rpS (hid_new hT) h1) (.cons (rpS (hid_new hT) h2) .nil))
def enumD (l : List Da) : List Da := l.mapIdx fun i x => .tup [.int (i : Nat), x]
theorem enumD_get {l : List Da} {i : Nat} {d : Da} (h : (enumD l)[i]? = some d) : ∃ x, l[i]? = some x ∧ d = .tup [.int (i : Nat), x] := by
  unfold enumD at h
  rw [List.getElem?_mapIdx] at h
  cases e : l[i]? with
  | none => rw [e] at h; cases h
  | some x => rw [e] at h; exact ⟨x, rfl, (Option.some.inj h).symm⟩
theorem enumD_len {l : List Da} : (enumD l).length = l.length := by unfold enumD; rw [List.length_mapIdx]
def piEnum (p : PAr) : PIt := fun ρ Q => p ρ fun ds => ∃ l, (ds = [.lst l] ∨ ds = [.tup l]) ∧ Q (enumD l)
theorem sim_iEnum {t : TA} {p : PAr} (h : SimA N t p) : SimI N (iEnumA N.K t) (piEnum p) := by
  intro w H0 B aw ow H σ ρ R Q' r q k
  refine h w H0 B aw ow H σ ρ _ _ r q fun vs ds H1 r1 x1 h1 ⟨a, e, q1⟩ => ?_
  rcases e with rfl | rfl
  · obtain ⟨v, rfl, ha⟩ := rps1 h1
    obtain ⟨pa, xs, rfl, ea, ra⟩ := rpL ha
    have la := rpsLen ra
    refine ⟨pa, xs, rfl, .inl ⟨SqL.of (hid_le _ _ ea), k _ _ H1 r1 x1 ⟨fun i H h s => ⟨xs, SqL.of (s _ _ ea), by rw [enumD_len] at h; omega⟩, fun i H h s => ?_, fun i H x H' d hd s y => ?_⟩ q1⟩⟩
    · rw [enumD_len] at h
      have h1 : i < xs.length := by omega
      exact ⟨xs, xs[i], SqL.of (s _ _ ea), by simp [h1]⟩
    · obtain ⟨T, x1, rfl, hT, rfl, f1⟩ := y
      obtain ⟨d1, e1, rfl⟩ := enumD_get hd
      obtain ⟨v, hv, rv⟩ := rpsGet ra e1
      have z1 := f1 xs (SqL.of (s _ _ ea))
      rw [hv] at z1
      cases z1
      exact ⟨Same.new hT (Same.refl _), fun O oc t => rp_pair hT oc (.int _) (rpS t rv)⟩
  · obtain ⟨v, rfl, ha⟩ := rps1 h1
    obtain ⟨pa, xs, rfl, ea, ra⟩ := rpT ha
    have la := rpsLen ra
    refine ⟨pa, xs, rfl, .inr ⟨Same.sqT hid_le ea, k _ _ H1 r1 x1 ⟨fun i H h s => ⟨xs, Same.sqT s ea, by rw [enumD_len] at h; omega⟩, fun i H h s => ?_, fun i H x H' d hd s y => ?_⟩ q1⟩⟩
    · rw [enumD_len] at h
      have h1 : i < xs.length := by omega
      exact ⟨xs, xs[i], Same.sqT s ea, by simp [h1]⟩
    · obtain ⟨T, x1, rfl, hT, rfl, f1⟩ := y
      obtain ⟨d1, e1, rfl⟩ := enumD_get hd
      obtain ⟨v, hv, rv⟩ := rpsGet ra e1
      have z1 := f1 xs (Same.sqT s ea)
      rw [hv] at z1
      cases z1
      exact ⟨Same.new hT (Same.refl _), fun O oc t => rp_pair hT oc (.int _) (rpS t rv)⟩
def strD (x : Str) : List Da := x.cps.toList.map fun ch => .str ⟨#[ch]⟩
def piStr (p : PEx) : PIt := fun ρ Q => p ρ fun d => ∃ x, d = .str x ∧ Q (strD x)
theorem sim_iStr {t : TE} {p : PEx} (h : SimE N t p) : SimI N (iStr t) (piStr p) := by
  intro w H0 B aw ow H σ ρ R Q' r q k
  refine h w H0 B aw ow H σ ρ _ _ r q fun v d H1 r1 x1 h1 ⟨x, e, q1⟩ => ?_
  subst e; cases h1
  have hl : (strD x).length = x.cps.size := by unfold strD; rw [List.length_map, Array.length_toList]
  refine ⟨x, rfl, k _ _ H1 r1 x1 ⟨fun i H h s => by rw [hl] at h; exact Nat.le_of_eq h, fun i H h s => by rw [hl] at h; exact h, fun i H v H' d hd s y => ?_⟩ q1⟩
  obtain ⟨rfl, ch, e, rfl⟩ := y
  unfold strD at hd
  rw [List.getElem?_map, Array.getElem?_toList, e] at hd
  cases hd
  exact ⟨Same.refl _, fun O _ t => .str _⟩
def pNext : PSt := fun D ρ => D.nx ρ
def pSeq (p q : PSt) : PSt := fun D ρ => p { D with nx := q D } ρ
def pCut (p q : PSt) : PSt := fun D ρ => ∃ M : PEnv → Prop, p { D with nx := M } ρ ∧ ∀ ρ', M ρ' → q D ρ'
def pAsg (e : PEx) (g : PTg) : PSt := fun D ρ => e ρ fun d => g d ρ D.nx
def pDrop (e : PEx) : PSt := fun D ρ => e ρ fun _ => D.nx ρ
def pRet (e : PEx) : PSt := fun D ρ => e ρ D.rt
def pRetN : PSt := fun D _ => D.rt .non
def pIfS (t : PTe) (p q : PSt) : PSt := fun D ρ => t ρ fun b => if b = true then p D ρ else q D ρ
def pBreak : PSt := fun D ρ => D.bk ρ
def pCont : PSt := fun D ρ => D.ct ρ
def pRaise (Wp : WP) (x : Str) : PSt := fun _ ρ => Wp x ρ
def pRaiseA (Wp : WP) (x : Str) (e : PEx) : PSt := fun _ ρ => e ρ fun _ => Wp x ρ
def pLoop (l : List Da) (g : PTg) (b : PSt) : PSt := fun D ρ => ∃ I : Nat → PEnv → Prop, I 0 ρ ∧ (∀ i x ρ', l[i]? = some x → I i ρ' → g x ρ' fun ρ2 => b { D with nx := I (i + 1), ct := I (i + 1), bk := D.nx } ρ2) ∧ ∀ ρ', I l.length ρ' → D.nx ρ'
def pFor (pi : PIt) (g : PTg) (b : PSt) : PSt := fun D ρ => pi ρ fun l => pLoop l g b D ρ
theorem AdD.withNx {D : Ends} {D' : PD} {nx : L2.St → Hp → Prop} {nx' : PEnv → Prop} (a : AdD N w H0 B D D') (h : ∀ ow H σ ρ, Rel N.K N.c w H0 B ow H σ ρ → nx' ρ → nx σ H) : AdD N w H0 B { D with nx := nx } { D' with nx := nx' } := ⟨h, a.bk, a.ct, a.rt, a.rm⟩
theorem AdD.re {B' : Hp} {D : Ends} {D' : PD} (a : AdD N w H0 B D D') (s : Same B B') : AdD N w H0 B' D D' := ⟨fun ow H σ ρ r q => a.nx _ _ _ _ (r.re s) q, fun ow H σ ρ r q => a.bk _ _ _ _ (r.re s) q, fun ow H σ ρ r q => a.ct _ _ _ _ (r.re s) q, fun ow H σ ρ v d r h q => a.rt _ _ _ _ _ _ (r.re s) h q, fun ow H σ ρ v d r h q => a.rm _ _ _ _ _ _ (r.re s) h q⟩
theorem sim_next : SimS N tNext pNext := fun w H0 B aw ow H σ ρ D D' a r q => a.nx _ _ _ _ r q
theorem sim_seq {t u : TS} {p q : PSt} (ht : SimS N t p) (hu : SimS N u q) : SimS N (tSeq t u) (pSeq p q) := fun w H0 B aw ow H σ ρ D D' a r z =>
  ht w H0 B aw ow H σ ρ _ _ (a.withNx fun ow' H' σ' ρ' r' q' => hu w H0 B aw ow' H' σ' ρ' D D' a r' q') r z
theorem sim_cut {t u : TS} {p q : PSt} (ht : SimS N t p) (hu : SimS N u q) : SimS N (tCut t u) (pCut p q) := fun w H0 B aw ow H σ ρ D D' a r ⟨M, z, h⟩ =>
  ⟨fun σ' H' => ∃ ow' ρ', Rel N.K N.c w H0 B ow' H' σ' ρ' ∧ M ρ', ht w H0 B aw ow H σ ρ _ _ (a.withNx fun ow' H' σ' ρ' r' q' => ⟨ow', ρ', r', q'⟩) r z, fun σ' H' ⟨ow', ρ', r', m⟩ => hu w H0 B aw ow' H' σ' ρ' D D' a r' (h ρ' m)⟩
theorem sim_asg {t : TE} {g : TG} {p : PEx} {sl : List Nat} {pg : PTg} (ht : SimE N t p) (hg : SimG N g sl pg) : SimS N (tAsg t g) (pAsg p pg) := fun w H0 B aw ow H σ ρ D D' a r z =>
  ht w H0 B aw ow H σ ρ _ _ r z fun v d H1 r1 x1 h1 q1 => hg w H0 B ow H1 σ ρ v d _ _ r1 h1 q1 fun σ' ρ' r' _ q' => a.nx _ _ _ _ r' q'
theorem sim_drop {t : TE} {p : PEx} (ht : SimE N t p) : SimS N (tDrop t) (pDrop p) := fun w H0 B aw ow H σ ρ D D' a r z =>
  ht w H0 B aw ow H σ ρ _ _ r z fun v d H1 r1 x1 h1 q1 => a.nx _ _ _ _ r1 q1
theorem sim_ret {t : TE} {p : PEx} (ht : SimE N t p) : SimS N (tRet t) (pRet p) := fun w H0 B aw ow H σ ρ D D' a r z =>
  ht w H0 B aw ow H σ ρ _ _ r z fun v d H1 r1 x1 h1 q1 => a.rt _ _ _ _ _ _ r1 h1 q1
theorem sim_ifS {t : TT} {a b : TS} {p : PTe} {pa pb : PSt} (h : SimT N t p) (ha : SimS N a pa) (hb : SimS N b pb) : SimS N (tIfS t a b) (pIfS p pa pb) := by
  intro w H0 B aw ow H σ ρ D D' a r z
  refine h w H0 B aw ow H σ ρ _ _ r z fun b H1 r1 s1 q1 => ?_
  cases b with
  | true => exact z_iteT (ha w H0 B aw ow H1 σ ρ _ _ a r1 (by simpa using q1))
  | false => exact z_iteF (hb w H0 B aw ow H1 σ ρ _ _ a r1 (by simpa using q1))
theorem sim_raise {x : Str} : SimS N (sRaise N.c x N.W) (pRaise N.Wp x) := fun w H0 B aw ow H σ ρ D D' a r z => aw x ow H σ ρ r z
theorem sim_for {wi : TI} {pi : PIt} {g : TG} {sl : List Nat} {pg : PTg} {tb : TS} {pb : PSt} (hi : SimI N wi pi) (hg : SimG N g sl pg) (hb : SimS N tb pb) : SimS N (tFor wi g tb) (pFor pi pg pb) := by
  intro w H0 B aw ow H σ ρ D D' a r z
  refine hi w H0 B aw ow H σ ρ _ _ r z fun J items H1 r1 x1 j ⟨I, i0, st, fin⟩ => ?_
  have base : Same B (dh w ow H1) := r1.bs
  refine ⟨fun i m σ' H' => m = items.length - i ∧ i ≤ items.length ∧ ∃ ow' ρ', Rel N.K N.c w H0 (dh w ow H1) ow' H' σ' ρ' ∧ I i ρ', ⟨_, rfl, Nat.zero_le _, ow, ρ, ⟨r1.occ, r1.dr, r1.nd, r1.inj, r1.fr, r1.fr2, r1.len, r1.sl, Same.refl _, r1.tb⟩, i0⟩, ?_⟩
  rintro i m σ' H' ⟨rfl, hi, ow', ρ', r', ii⟩
  by_cases hlt : i < items.length
  · refine .inr ⟨j.go i H' hlt (Same.trans r'.bs hid_le), fun σ2 H2 => ∃ ow2 ρ2, Rel N.K N.c w H0 (dh w ow H1) ow2 H2 σ2 ρ2 ∧ I (i + 1) ρ2, fun σ2 H2 q => ⟨_, by omega, rfl, by omega, q⟩, fun x H2 y => ?_⟩
    have ed : items[i]? = some items[i] := by simp [hlt]
    obtain ⟨s2, rp⟩ := j.yld i H' x H2 _ ed (Same.trans r'.bs hid_le) y
    have r2 := r'.same s2
    refine hg w H0 _ ow' H2 σ' ρ' x _ _ _ r2 (rp _ r'.occ r'.bs) (st i _ ρ' ed ii) fun σ3 ρ3 r3 _ q3 => ?_
    exact hb w H0 _ (aw.re base) ow' H2 σ3 ρ3 _ { D' with nx := I (i + 1), ct := I (i + 1), bk := D'.nx } ⟨fun ow4 H4 σ4 ρ4 r4 q4 => ⟨ow4, ρ4, r4, q4⟩, fun ow4 H4 σ4 ρ4 r4 q4 => a.nx _ _ _ _ (r4.re base) q4, fun ow4 H4 σ4 ρ4 r4 q4 => ⟨ow4, ρ4, r4, q4⟩, fun ow4 H4 σ4 ρ4 v d r4 h4 q4 => a.rt _ _ _ _ _ _ (r4.re base) h4 q4, fun ow4 H4 σ4 ρ4 v d r4 h4 q4 => a.rm _ _ _ _ _ _ (r4.re base) h4 q4⟩ r3 q3
  · have e : i = items.length := by omega
    subst e
    exact .inl ⟨j.stop _ H' rfl (Same.trans r'.bs hid_le), a.nx _ _ _ _ (r'.re base) (fin ρ' ii)⟩
end

def SimF (N : Cn) (t : TE) (p : PAr) : Prop := ∀ w H0 B, AdW N w H0 B → ∀ ow H σ ρ Q (Q' : List Da → Prop), Rel N.K N.c w H0 B ow H σ ρ → p ρ Q' → (∀ a vs l H', Rel N.K N.c w H0 B ((ρ.length, a) :: ow) H' σ ρ → Ex w.S H H' → Fre H a → H' a = some (.lst vs) → RpA N.K N.c w.st (dh w ((ρ.length, a) :: ow) H') vs l → Q' l → Q (.ref a) H') → t σ H Q
section
variable {N : Cn} {w : Pw} {H0 B H H' : Hp} {ow : Ow} {σ : L2.St} {ρ : PEnv}
theorem Rel.sub {ow' : Ow} (r : Rel N.K N.c w H0 B ow H σ ρ) (h1 : ∀ p ∈ ow', p ∈ ow) (h2 : ∀ i x, ρ[i]? = some (some x) → SlotOk N.K N.c w ow' H σ i x) : Rel N.K N.c w H0 B ow' H σ ρ := by
  have hsub : ∀ a, a ∈ hl w ow' → a ∈ hl w ow := fun a ha => by
    rcases List.mem_append.mp ha with ha | ha
    · obtain ⟨p, hp, rfl⟩ := List.mem_map.mp ha
      exact List.mem_append_left _ (List.mem_map_of_mem (h1 p hp))
    · exact List.mem_append_right _ ha
  exact ⟨fun a ha => r.occ a (hsub a ha), r.dr, fun p hp => r.nd p (h1 p hp), fun p hp q hq => r.inj p (h1 p hp) q (h1 q hq), r.fr, fun p hp => r.fr2 p (h1 p hp), r.len, h2, Same.trans r.bs (hid_sub hsub), r.tb⟩
theorem dh_sub {ow' : Ow} (h1 : ∀ p ∈ ow', p ∈ ow) : Same (dh w ow H) (dh w ow' H) := hid_sub fun a ha => by
  rcases List.mem_append.mp ha with ha | ha
  · obtain ⟨p, hp, rfl⟩ := List.mem_map.mp ha
    exact List.mem_append_left _ (List.mem_map_of_mem (h1 p hp))
  · exact List.mem_append_right _ ha
theorem get_lt {i : Nat} {x : Pv} (h : ρ[i]? = some (some x)) : i < ρ.length := (List.getElem?_eq_some_iff.mp h).1
theorem Rel.unhide {a : Addr} (r : Rel N.K N.c w H0 B ((ρ.length, a) :: ow) H σ ρ) : Rel N.K N.c w H0 B ow H σ ρ := by
  refine r.sub (fun p hp => List.mem_cons_of_mem _ hp) fun i x e => ?_
  have lt := get_lt e
  have k := r.sl i x e
  have s : Same (dh w ((ρ.length, a) :: ow) H) (dh w ow H) := dh_sub fun p hp => List.mem_cons_of_mem _ hp
  have mem : ∀ {b : Addr}, (i, b) ∈ (ρ.length, a) :: ow → (i, b) ∈ ow := fun {b} hb => by
    rcases List.mem_cons.mp hb with z | z
    · injection z with z1 z2; omega
    · exact z
  cases x with
  | d x => obtain ⟨v, e, rr⟩ := k; exact ⟨v, e, rpS s rr⟩
  | own l => obtain ⟨b, vs, m, e, eh, rr⟩ := k; exact ⟨b, vs, mem m, e, eh, rpsS s rr⟩
  | dct t l => obtain ⟨b, vs, m, e, eh, ⟨rr, oo⟩⟩ := k; exact ⟨b, vs, mem m, e, eh, ⟨rpsS s rr, oo⟩⟩
  | obj x gs ks l => obtain ⟨b, dx, vs, m, e, ok, eh, hl, rr⟩ := k; exact ⟨b, dx, vs, mem m, e, ok, eh, hl, rpsS s rr⟩
  | mu b T => obtain ⟨v, as, e, p, m, n, rr⟩ := k; exact ⟨v, as, e, p, fun a ha => mem (m a ha), n, rr.mono s _ _ _ fun _ _ _ eo => eo⟩
theorem sim_ofF {t : TE} {p : PAr} (h : SimF N t p) : SimE N t (fun ρ Q => p ρ fun l => Q (.lst l)) := by
  intro w H0 B aw ow H σ ρ Q Q' r z k
  refine h w H0 B aw ow H σ ρ _ _ r z fun a vs l H1 r1 x1 ha e1 h1 q1 => ?_
  have nin : a ∉ hl w ow := r.occ.noF ha
  exact k _ _ H1 r1.unhide x1 (.lst (hid_lk nin e1) (rpsS (dh_sub fun p hp => List.mem_cons_of_mem _ hp) h1)) q1
theorem simF_lst {t : TA} {p : PAr} (ht : SimA N t p) : SimF N (tLst t) (fun ρ Q => p ρ fun ds => ds.length ≤ 100000 ∧ Q ds) := by
  intro w H0 B aw ow H σ ρ Q Q' r h k
  refine ht w H0 B aw ow H σ ρ _ _ r h fun vs ds H1 r1 s1 h1 ⟨l, q1⟩ => ⟨Nat.le_trans (by rw [rpsLen h1]; exact l) (by decide), fun a ha => ?_⟩
  have h0 : Fre H a := fun o n e => by
    by_cases q : ∃ st L, w.S = some (st, L) ∧ a = st
    · obtain ⟨st, L, e, rfl⟩ := q
      obtain ⟨o', e'⟩ := (s1.2 _ _ e).occ; rw [ha] at e'; cases e'
    · have := s1.1 a o (fun st L z1 z2 => q ⟨st, L, z1, z2⟩) n e; rw [ha] at this; cases this
  exact k a vs ds _ (r1.hide ha) (Ex.trans s1 (r1.exOf (Same.new ha (Same.refl _)))) h0 upd_same (RpA.hide ha h1 (Same.new ha (Same.refl _))) q1
theorem Ex.none {S : Option (Addr × Addr)} {a : Addr} (x : Ex S H H') (h : H' a = none) : Fre H a := fun o n e => by
  by_cases q : ∃ st L, S = some (st, L) ∧ a = st
  · obtain ⟨st, L, e, rfl⟩ := q
    obtain ⟨o', e'⟩ := (x.2 _ _ e).occ; rw [h] at e'; cases e'
  · have := x.1 a o (fun st L z1 z2 => q ⟨st, L, z1, z2⟩) n e; rw [h] at this; cases this
def wipeP (ρ : PEnv) : List Nat → PEnv
  | [] => ρ
  | v :: vs => (wipeP ρ vs).set v none
theorem Rel.wipe (r : Rel N.K N.c w H0 B ow H σ ρ) : ∀ us : List Nat, Rel N.K N.c w H0 B ow H (L2.wipe σ us) (wipeP ρ us)
  | [] => r
  | u :: us => (r.wipe us).drop u none
def pComp (l : List Da) (g : PTg) (t : PTe) (e : PEx) (us : List Nat) : PAr := fun ρ Q => l.length ≤ 90000 ∧ ∃ R : Nat → List Da → Prop, R 0 [] ∧ (∀ i x acc, l[i]? = some x → R i acc → g x (wipeP ρ us) fun ρ2 => t ρ2 fun b => if b = true then e ρ2 fun y => R (i + 1) (acc ++ [y]) else R (i + 1) acc) ∧ ∀ acc, R l.length acc → Q acc
def pLcF (pi : PIt) (g : PTg) (t : PTe) (e : PEx) (us : List Nat) : PAr := fun ρ Q => pi ρ fun l => pComp l g t e us ρ Q
def pLc (pi : PIt) (g : PTg) (t : PTe) (e : PEx) (us : List Nat) : PEx := fun ρ Q => pLcF pi g t e us ρ fun l => Q (.lst l)
def pYes : PTe := fun _ Q => Q true
theorem sim_yes : SimT N tYes pYes := fun w H0 B aw ow H σ ρ Q Q' r h k => k true H r r.x0 h
theorem simF_lc {wi : TI} {pi : PIt} {g : TG} {sl : List Nat} {pg : PTg} {tt : TT} {pt : PTe} {te : TE} {pe : PEx} {us : List Nat} (hi : SimI N wi pi) (hg : SimG N g sl pg) (hs : ∀ i ∈ sl, i ∈ us) (ht : SimT N tt pt) (he : SimE N te pe) : SimF N (tLc wi g tt te us) (pLcF pi pg pt pe us) := by
  intro w H0 B aw ow H σ ρ Q Q' r z k
  refine hi w H0 B aw ow H σ ρ _ _ r z fun J items H1 r1 x1 j ⟨hn, R, i0, st, fin⟩ D hD => ?_
  refine ⟨fun i m H' => m = items.length - i ∧ i ≤ items.length ∧ Rel N.K N.c w H0 B ((ρ.length, D) :: ow) H' σ ρ ∧ Ex w.S H1 H' ∧ ∃ acc ds, H' D = some (.lst acc) ∧ RpA N.K N.c w.st (dh w ((ρ.length, D) :: ow) H') acc ds ∧ acc.length ≤ i ∧ R i ds, ⟨_, rfl, Nat.zero_le _, r1.hide hD, r1.exOf (Same.new hD (Same.refl _)), [], [], upd_same, .nil, Nat.le_refl _, i0⟩, ?_⟩
  have hG : ∀ H', Rel N.K N.c w H0 B ((ρ.length, D) :: ow) H' σ ρ → Ex w.S H1 H' → Same (dh w ow H1) (dh w ((ρ.length, D) :: ow) H') := fun H' r' x' => hid_of hD (x'.dh r1)
  rintro i m H' ⟨rfl, hi, r', x', acc, ds, eD, ra, la, ii⟩
  have s' := hG H' r' x'
  by_cases hlt : i < items.length
  · refine .inr ⟨j.go i H' hlt (Same.trans s' hid_le), fun H2 => Rel N.K N.c w H0 B ((ρ.length, D) :: ow) H2 σ ρ ∧ Ex w.S H1 H2 ∧ ∃ acc ds, H2 D = some (.lst acc) ∧ RpA N.K N.c w.st (dh w ((ρ.length, D) :: ow) H2) acc ds ∧ acc.length ≤ i + 1 ∧ R (i + 1) ds, fun H2 q => ⟨_, by omega, rfl, by omega, q⟩, fun x H2 y => ?_⟩
    have ed : items[i]? = some items[i] := by simp [hlt]
    obtain ⟨s2, rp⟩ := j.yld i H' x H2 _ ed (Same.trans s' hid_le) y
    have r2 := r'.same s2
    have x2 : Ex w.S H' H2 := r'.exOf s2
    refine hg w H0 B _ H2 _ _ x _ _ _ (r2.wipe us) (rp _ r'.occ s') (st i _ ds ed ii) fun σ3 ρ3 r3 w3 q3 => ⟨(w3 us hs).trans wipe_wipe, ?_⟩
    have notD : ∀ st L, w.S = some (st, L) → D ≠ st := r'.notSt (p := (ρ.length, D)) (List.mem_cons_self ..)
    refine ht w H0 B aw _ H2 σ3 ρ3 _ _ r3 q3 fun b H3 r4 x4 q4 => ?_
    cases b with
    | true =>
      refine z_iteT (he w H0 B aw _ H3 σ3 ρ3 _ _ r4 (by simpa using q4) fun v d H4 r5 x5 h5 q5 => ?_)
      have x04 : Ex w.S H' H4 := Ex.trans x2 (Ex.trans x4 x5)
      have e4 := x04.lk notD eD
      have rr := r'.ex x04 r5.tb
      refine ⟨acc, e4, Nat.lt_of_lt_of_le (show acc.length < 100000 by omega) (by decide), ?_⟩
      have rw' := rr.write (o := .lst (acc ++ [v])) (List.mem_cons_self ..) (fun k' x e m => by
        have lt := get_lt e
        rcases List.mem_cons.mp m with z | z
        · injection z with z1 z2; omega
        · exact absurd (r'.inj _ (List.mem_cons_of_mem _ z) _ (List.mem_cons_self ..) rfl) (fun z' => by injection z' with z1 z2; omega))
      have ed : dh w ((ρ.length, D) :: ow) (upd H4 D (.lst (acc ++ [v]))) = dh w ((ρ.length, D) :: ow) H4 := hid_put (List.mem_cons_self ..)
      refine ⟨rw', ⟨fun a o n nt ea => ?_, fun st L e => ((rw'.dr st L e).1)⟩, _, _, upd_same, by rw [ed]; exact rpsApp (rpsS (x04.dh r') ra) (rpsOne h5), by simp; omega, q5⟩
      refine lk_ne (fun z => ?_) ((Ex.trans x' x04).1 a o n nt ea)
      subst z; rw [hD] at ea; cases ea
    | false =>
      have x03 : Ex w.S H' H3 := Ex.trans x2 x4
      exact z_iteF ⟨r'.ex x03 r4.tb, Ex.trans x' x03, acc, ds, x03.lk notD eD, rpsS (x03.dh r') ra, by omega, by simpa using q4⟩
  · have e : i = items.length := by omega
    subst e
    exact .inl ⟨j.stop _ H' rfl (Same.trans s' hid_le), k D acc ds H' r' (Ex.trans x1 x') (x1.none hD) eD ra (fin ds ii)⟩
theorem sim_lc {wi : TI} {pi : PIt} {g : TG} {sl : List Nat} {pg : PTg} {tt : TT} {pt : PTe} {te : TE} {pe : PEx} {us : List Nat} (hi : SimI N wi pi) (hg : SimG N g sl pg) (hs : ∀ i ∈ sl, i ∈ us) (ht : SimT N tt pt) (he : SimE N te pe) : SimE N (tLc wi g tt te us) (pLc pi pg pt pe us) := sim_ofF (simF_lc hi hg hs ht he)
theorem Rel.reown {a : Addr} {i : Nat} {vs : List V} {l : List Da} (r : Rel N.K N.c w H0 B ((ρ.length, a) :: ow) H σ ρ) (hn : a ∉ hl w ow) (e : H a = some (.lst vs)) (h : RpA N.K N.c w.st (dh w ((ρ.length, a) :: ow) H) vs l) : Rel N.K N.c w H0 B ((i, a) :: ow) H (σ.set i (some (.ref a))) (ρ.set i (some (.own l))) := by
  have eq : ∀ {H : Hp}, dh w ((i, a) :: ow) H = dh w ((ρ.length, a) :: ow) H := rfl
  have fresh : ∀ q ∈ ow, q.2 ≠ a := fun q hq z => hn (List.mem_append_left _ (z ▸ List.mem_map_of_mem hq))
  refine ⟨r.occ, r.dr, ?_, ?_, r.fr, ?_, by rw [List.length_set, List.length_set]; exact r.len, ?_, r.bs, r.tb⟩
  · intro q hq
    rcases List.mem_cons.mp hq with rfl | hq
    · exact r.nd (ρ.length, a) (List.mem_cons_self ..)
    · exact r.nd q (List.mem_cons_of_mem _ hq)
  · intro q hq q' hq' z
    rcases List.mem_cons.mp hq with rfl | hq
    · rcases List.mem_cons.mp hq' with rfl | hq'
      · rfl
      · exact absurd z.symm (fresh q' hq')
    · rcases List.mem_cons.mp hq' with rfl | hq'
      · exact absurd z (fresh q hq)
      · exact r.inj q (List.mem_cons_of_mem _ hq) q' (List.mem_cons_of_mem _ hq') z
  · intro q hq
    rcases List.mem_cons.mp hq with rfl | hq
    · exact r.fr2 (ρ.length, a) (List.mem_cons_self ..)
    · exact r.fr2 q (List.mem_cons_of_mem _ hq)
  · intro j x ej
    rw [getElem?_set'] at ej
    by_cases q : i = j
    · subst q
      rw [if_pos rfl] at ej
      by_cases lt : i < ρ.length
      · rw [if_pos lt] at ej
        cases ej
        exact ⟨a, vs, List.mem_cons_self .., by rw [List.getElem?_set_self (by rw [r.len]; exact lt)], e, h⟩
      · rw [if_neg lt] at ej; cases ej
    · rw [if_neg q] at ej
      have lt := get_lt ej
      have k := r.sl j x ej
      have mem : ∀ {b : Addr}, (j, b) ∈ (ρ.length, a) :: ow → (j, b) ∈ (i, a) :: ow := fun {b} hb => by
        rcases List.mem_cons.mp hb with z | z
        · injection z with z1 z2; omega
        · exact List.mem_cons_of_mem _ z
      refine SlotOk.other ?_ q
      cases x with
      | d x => exact k
      | own l => obtain ⟨b, vs, m, e, eh, rr⟩ := k; exact ⟨b, vs, mem m, e, eh, rr⟩
      | dct t l => obtain ⟨b, vs, m, e, eh, ⟨rr, oo⟩⟩ := k; exact ⟨b, vs, mem m, e, eh, ⟨rr, oo⟩⟩
      | obj x gs ks l => obtain ⟨b, dx, vs, m, e, ok, eh, hl, rr⟩ := k; exact ⟨b, dx, vs, mem m, e, ok, eh, hl, rr⟩
      | mu b T => obtain ⟨v, as, e, p, m, n, rr⟩ := k; exact ⟨v, as, e, p, fun a ha => mem (m a ha), n, rr⟩
def pAsgO (i : Nat) (p : PAr) : PSt := fun D ρ => p ρ fun l => D.nx (ρ.set i (some (.own l)))
theorem sim_asgO {t : TE} {p : PAr} {i : Nat} (h : SimF N t p) : SimS N (tAsg t (gName i)) (pAsgO i p) := fun w H0 B aw ow H σ ρ D D' a r z =>
  h w H0 B aw ow H σ ρ _ _ r z fun b vs l H1 r1 x1 hb e1 h1 q1 => a.nx _ _ _ _ (r1.reown (r.occ.noF hb) e1 h1) q1
theorem Rel.putO {i : Nat} {a : Addr} {vs' : List V} {l' : List Da} (r : Rel N.K N.c w H0 B ow H σ ρ) (lt : i < ρ.length) (m : (i, a) ∈ ow) (e : σ[i]? = some (some (.ref a))) (h : RpA N.K N.c w.st (dh w ow H) vs' l') : Rel N.K N.c w H0 B ow (upd H a (.lst vs')) σ (ρ.set i (some (.own l'))) := by
  have hin : a ∈ hl w ow := List.mem_append_left _ (List.mem_map_of_mem (f := (·.2)) m)
  have ed : dh w ow (upd H a (.lst vs')) = dh w ow H := hid_put hin
  have r0 : Rel N.K N.c w H0 B ow H σ (ρ.set i none) := ⟨r.occ, r.dr, r.nd, r.inj, r.fr, r.fr2, by rw [List.length_set]; exact r.len, fun j x ej => by
    rw [getElem?_set'] at ej
    by_cases q : i = j
    · rw [if_pos q] at ej; split at ej <;> cases ej
    · rw [if_neg q] at ej; exact r.sl j x ej, r.bs, r.tb⟩
  have r1 := r0.write (o := .lst vs') m (fun k x ek mk => by
    have := r0.inj _ mk _ m rfl
    injection this with z _
    subst z
    rw [getElem?_set', if_pos rfl] at ek
    split at ek <;> cases ek)
  refine ⟨r1.occ, r1.dr, r1.nd, r1.inj, r1.fr, r1.fr2, by rw [List.length_set]; exact r.len, fun j x ej => ?_, r1.bs, r1.tb⟩
  rw [getElem?_set'] at ej
  by_cases q : i = j
  · subst q
    rw [if_pos rfl, if_pos lt] at ej
    cases ej
    exact ⟨a, vs', m, e, upd_same, by rw [ed]; exact h⟩
  · rw [if_neg q] at ej
    exact r1.sl j x (by rw [getElem?_set', if_neg q]; exact ej)
def pApp (i : Nat) (e : PEx) : PSt := fun D ρ => ∃ l, ρ[i]? = some (some (.own l)) ∧ l.length < 100000 ∧ e ρ fun d => D.nx (ρ.set i (some (.own (l ++ [d]))))
theorem sim_app {i : Nat} {t : TE} {p : PEx} (h : SimE N t p) : SimS N (tDrop (tBM N.K "list" rAppend (tVar i) (tCons t tNil))) (pApp i p) := by
  intro w H0 B aw ow H σ ρ D D' a r ⟨l, el, hl, z⟩
  obtain ⟨b, vs, m, es, eb, rl⟩ := r.sl i _ el
  refine ⟨.ref b, es, tyL eb, ?_⟩
  refine h w H0 B aw ow H σ ρ _ _ r z fun v d H1 r1 x1 h1 q1 => ?_
  refine ⟨b, vs, v, rfl, rfl, x1.lk (r.notSt m) eb, Nat.lt_of_lt_of_le (show vs.length < 100000 by rw [rpsLen rl]; exact hl) (by decide), ?_⟩
  exact a.nx _ _ _ _ (r1.putO (get_lt el) m es (rpsApp (rpsS (x1.dh r) rl) (rpsOne h1))) q1
def pSetI (i : Nat) (pk pv : PEx) : PSt := fun D ρ => ∃ l, ρ[i]? = some (some (.own l)) ∧ pv ρ fun d => pk ρ fun e => ∃ k j, e = .int k ∧ ixN l.length k = some j ∧ D.nx (ρ.set i (some (.own (l.set j d))))
theorem sim_setI {i : Nat} {tk tv : TE} {pk pv : PEx} (hk : SimE N tk pk) (hv : SimE N tv pv) : SimS N (tAsg tv (gSub (tVar i) tk rSetL)) (pSetI i pk pv) := by
  intro w H0 B aw ow H σ ρ D D' a r ⟨l, el, z⟩
  obtain ⟨b, vs, m, es, eb, rl⟩ := r.sl i _ el
  refine hv w H0 B aw ow H σ ρ _ _ r z fun v d H1 r1 x1 h1 q1 => ?_
  refine ⟨.ref b, es, ?_⟩
  refine hk w H0 B aw ow H1 σ ρ _ _ r1 q1 fun u e H2 r2 x2 h2 ⟨k, j, ee, ej, q2⟩ => ?_
  subst ee; cases h2
  have x12 := Ex.trans x1 x2
  refine ⟨b, vs, k, j, rfl, rfl, x12.lk (r.notSt m) eb, by rw [rpsLen rl]; exact ej, ?_⟩
  exact a.nx _ _ _ _ (r2.putO (get_lt el) m es (rpsSet j (rpsS (x12.dh r) rl) (rpS (x2.dh r1) h1))) q2
theorem Rel.frz {i : Nat} {l : List Da} (r : Rel N.K N.c w H0 B ow H σ ρ) (e : ρ[i]? = some (some (.own l))) : ∃ ow2, (∀ p ∈ ow2, p ∈ ow) ∧ Rel N.K N.c w H0 B ow2 H σ (ρ.set i (some (.d (.lst l)))) := by
  obtain ⟨a, vs, m, es, ea, rl⟩ := r.sl i _ e
  have sub : ∀ p ∈ ow.filter (fun p => p.2 != a), p ∈ ow := fun p hp => (List.mem_filter.mp hp).1
  have r0 : Rel N.K N.c w H0 B ow H σ (ρ.set i none) := ⟨r.occ, r.dr, r.nd, r.inj, r.fr, r.fr2, by rw [List.length_set]; exact r.len, fun j x ej => by
    rw [getElem?_set'] at ej
    by_cases q : i = j
    · rw [if_pos q] at ej; split at ej <;> cases ej
    · rw [if_neg q] at ej; exact r.sl j x ej, r.bs, r.tb⟩
  have s : Same (dh w ow H) (dh w (ow.filter (fun p => p.2 != a)) H) := dh_sub sub
  have r1 : Rel N.K N.c w H0 B (ow.filter (fun p => p.2 != a)) H σ (ρ.set i none) := r0.sub sub fun j x ej => by
    have k := r0.sl j x ej
    have ne : i ≠ j := fun q => by subst q; rw [getElem?_set', if_pos rfl] at ej; split at ej <;> cases ej
    have mem : ∀ {b : Addr}, (j, b) ∈ ow → (j, b) ∈ ow.filter (fun p => p.2 != a) := fun {b} hb => List.mem_filter.mpr ⟨hb, by
      rw [bne_iff_ne]
      intro z
      have := r.inj _ hb _ m z
      injection this with z1 _
      exact ne z1.symm⟩
    cases x with
    | d x => obtain ⟨v, e, rr⟩ := k; exact ⟨v, e, rpS s rr⟩
    | own l => obtain ⟨b, vs, m, e, eh, rr⟩ := k; exact ⟨b, vs, mem m, e, eh, rpsS s rr⟩
    | dct t l => obtain ⟨b, vs, m, e, eh, ⟨rr, oo⟩⟩ := k; exact ⟨b, vs, mem m, e, eh, ⟨rpsS s rr, oo⟩⟩
    | obj x gs ks l => obtain ⟨b, dx, vs, m, e, ok, eh, hl, rr⟩ := k; exact ⟨b, dx, vs, mem m, e, ok, eh, hl, rpsS s rr⟩
    | mu b T => obtain ⟨v, as, e, p, m, n, rr⟩ := k; exact ⟨v, as, e, p, fun a ha => mem (m a ha), n, rr.mono s _ _ _ fun _ _ _ eo => eo⟩
  have nin : a ∉ hl w (ow.filter (fun p => p.2 != a)) := fun h => by
    rcases List.mem_append.mp h with h | h
    · obtain ⟨p, hp, e⟩ := List.mem_map.mp h
      have := (List.mem_filter.mp hp).2
      rw [bne_iff_ne] at this
      exact this e
    · exact (r.nd _ m).2 h
  refine ⟨_, sub, r1.occ, r1.dr, r1.nd, r1.inj, r1.fr, r1.fr2, by rw [List.length_set]; exact r.len, fun j x ej => ?_, r1.bs, r1.tb⟩
  rw [getElem?_set'] at ej
  by_cases q : i = j
  · subst q
    rw [if_pos rfl, if_pos (get_lt e)] at ej
    cases ej
    exact ⟨.ref a, es, .lst (hid_lk nin ea) (rpsS s rl)⟩
  · rw [if_neg q] at ej
    exact r1.sl j x (by rw [getElem?_set', if_neg q]; exact ej)
def pFrz (i : Nat) (p : PSt) : PSt := fun D ρ => ∃ l, ρ[i]? = some (some (.own l)) ∧ p D (ρ.set i (some (.d (.lst l))))
theorem sim_frz {t : TS} {p : PSt} {i : Nat} (h : SimS N t p) : SimS N t (pFrz i p) := fun w H0 B aw ow H σ ρ D D' a r ⟨l, e, z⟩ => by
  obtain ⟨ow2, _, r2⟩ := r.frz e
  exact h w H0 B aw ow2 H σ _ D D' a r2 z
def pBor (i : Nat) (p : PEx) : PEx := fun ρ Q => ∃ l, ρ[i]? = some (some (.own l)) ∧ p (ρ.set i (some (.d (.lst l)))) fun d => flD d = true ∧ Q d
def pBorT (i : Nat) (p : PTe) : PTe := fun ρ Q => ∃ l, ρ[i]? = some (some (.own l)) ∧ p (ρ.set i (some (.d (.lst l)))) Q
theorem flat_rp {K : PySem.W.Frag} {c : CEnv} {S : Option Addr} {G G' : Hp} {v : V} {d : Da} (h : Rp K c S G v d) (f : flD d = true) : Rp K c S G' v d := by
  cases d <;> first | (cases f; done) | (cases h; constructor)
theorem sim_bor {t : TE} {p : PEx} {i : Nat} (h : SimE ⟨N.K, N.c, W0, fun _ _ => False⟩ t p) : SimE N t (pBor i p) := by
  intro w H0 B aw ow H σ ρ Q Q' r ⟨l, e, z⟩ k
  obtain ⟨ow2, sub, r2⟩ := Rel.frz (N := N) r e
  refine h w H0 B (fun _ _ _ _ _ _ f => f.elim) ow2 H σ _ _ _ r2 z fun v d H1 r1 x1 h1 ⟨f, q1⟩ => ?_
  exact k v d H1 (r.ex x1 r1.tb) x1 (flat_rp h1 f) q1
theorem sim_borT {t : TT} {p : PTe} {i : Nat} (h : SimT ⟨N.K, N.c, W0, fun _ _ => False⟩ t p) : SimT N t (pBorT i p) := by
  intro w H0 B aw ow H σ ρ Q Q' r ⟨l, e, z⟩ k
  obtain ⟨ow2, sub, r2⟩ := Rel.frz (N := N) r e
  refine h w H0 B (fun _ _ _ _ _ _ f => f.elim) ow2 H σ _ _ _ r2 z fun b H1 r1 x1 q1 => ?_
  exact k b H1 (r.ex x1 r1.tb) x1 q1
def putK (f : Str) : List Str → List Str
  | [] => [f]
  | k :: ks => if k = f then k :: ks else k :: putK f ks
def putL {α : Type} (f : Str) (d : α) : List Str → List α → List α
  | [], _ => [d]
  | _ :: _, [] => []
  | k :: ks, x :: l => if k = f then d :: l else x :: putL f d ks l
theorem putF_zip {f : Str} {v : V} : ∀ {ks : List Str} {vs : List V}, vs.length = ks.length → putF f v (ks.zip vs) = (putK f ks).zip (putL f v ks vs)
  | [], vs, h => by rw [List.zip_nil_left]; rfl
  | k :: ks, [], h => by simp at h
  | k :: ks, x :: vs, h => by
    rw [List.zip_cons_cons]
    unfold putF putK putL
    by_cases e : k = f
    · rw [if_pos e, if_pos e, if_pos e, List.zip_cons_cons]
    · rw [if_neg e, if_neg e, if_neg e, List.zip_cons_cons, putF_zip (by simpa using h)]
theorem putL_len {α : Type} {f : Str} {d : α} : ∀ {ks : List Str} {l : List α}, l.length = ks.length → (putL f d ks l).length = (putK f ks).length
  | [], l, h => by unfold putL putK; rfl
  | k :: ks, [], h => by simp at h
  | k :: ks, x :: l, h => by
    unfold putL putK
    by_cases e : k = f
    · rw [if_pos e, if_pos e]; simpa using h
    · rw [if_neg e, if_neg e, List.length_cons, List.length_cons, putL_len (by simpa using h)]
theorem putL_rp {K : PySem.W.Frag} {c : CEnv} {S : Option Addr} {G : Hp} {f : Str} {v : V} {d : Da} (h : Rp K c S G v d) : ∀ {ks : List Str} {vs : List V} {l : List Da}, RpA K c S G vs l → RpA K c S G (putL f v ks vs) (putL f d ks l)
  | [], vs, l, r => by unfold putL; exact rpsOne h
  | k :: ks, vs, [], r => by rw [rps0 r]; unfold putL; exact .nil
  | k :: ks, vs, x :: l, r => by
    obtain ⟨u, ws, rfl, a, b⟩ := rpsC r
    unfold putL
    by_cases e : k = f
    · rw [if_pos e, if_pos e]; exact .cons h b
    · rw [if_neg e, if_neg e]; exact .cons a (putL_rp h b)
def pSetF (i : Nat) (f : Str) (e : PEx) : PSt := fun D ρ => ∃ x gs ks l, ρ[i]? = some (some (.obj x gs ks l)) ∧ gs.contains f = true ∧ ks.length < 1000 ∧ e ρ fun d => D.nx (ρ.set i (some (.obj x gs (putK f ks) (putL f d ks l))))
theorem zip_len {α β : Type} {a : List α} {b : List β} (h : b.length = a.length) : (a.zip b).length = a.length := by rw [List.length_zip, h, Nat.min_self]
theorem sim_setF {i : Nat} {f : Str} {t : TE} {p : PEx} (h : SimE N t p) : SimS N (sFld N.K (tVar i) t f) (pSetF i f p) := by
  intro w H0 B aw ow H σ ρ D D' a r ⟨x, gs, ks, l, el, hc, hk, z⟩
  obtain ⟨b, dx, vs, m, es, ok, eb, hl, rl⟩ := r.sl i _ el
  refine h w H0 B aw ow H σ ρ _ _ r z fun v d H1 r1 x1 h1 q1 => ?_
  have lv := rpsLen rl
  refine ⟨.ref b, es, ?_⟩
  refine z_set ok.1 (x1.lk (r.notSt m) eb) hc (by rw [zip_len (by omega)]; exact hk) ?_
  rw [putF_zip (by omega)]
  have rv := putL_rp (f := f) (ks := ks) h1 (rpsS (x1.dh r) rl)
  have hin : b ∈ (ow.map (·.2) ++ w.O) := List.mem_append_left _ (List.mem_map_of_mem (f := (·.2)) m)
  have ed : ∀ o, dh w ow (upd H1 b o) = dh w ow H1 := fun o => hid_put hin
  have lt := get_lt el
  have r0 : Rel N.K N.c w H0 B ow H1 σ (ρ.set i none) := ⟨r1.occ, r1.dr, r1.nd, r1.inj, r1.fr, r1.fr2, by rw [List.length_set]; exact r1.len, fun j x ej => by
    rw [getElem?_set'] at ej
    by_cases q : i = j
    · rw [if_pos q] at ej; split at ej <;> cases ej
    · rw [if_neg q] at ej; exact r1.sl j x ej, r1.bs, r1.tb⟩
  have r2 := r0.write (o := .ins (N.c.cls x) dx ((putK f ks).zip (putL f v ks vs))) m (fun k x ek mk => by
    have := r0.inj _ mk _ m rfl
    injection this with z _
    subst z
    rw [getElem?_set', if_pos rfl] at ek
    split at ek <;> cases ek)
  refine a.nx ow _ _ _ ⟨r2.occ, r2.dr, r2.nd, r2.inj, r2.fr, r2.fr2, by rw [List.length_set]; exact r.len, fun j x ej => ?_, r2.bs, r2.tb⟩ q1
  rw [getElem?_set'] at ej
  by_cases q : i = j
  · subst q
    rw [if_pos rfl, if_pos lt] at ej
    cases ej
    exact ⟨b, dx, _, m, es, ok, upd_same, putL_len hl, by rw [ed]; exact rv⟩
  · rw [if_neg q] at ej
    exact r2.sl j x (by rw [getElem?_set', if_neg q]; exact ej)
end


section
variable {N : Cn} {w : Pw} {H0 B H H' : Hp} {ow : Ow} {σ : L2.St} {ρ : PEnv}
def pTry (x : Str) (ys : List Str) (pb : WP → PSt) (ps : PSt) (Wo : WP) : PSt := fun D ρ => pb (fun y ρ' => y ∈ ys ∧ if SUB y x = true then ps D ρ' else Wo y ρ') D ρ
def vD : V → Da | .non => .non | .bl b => .bl b | .int i => .int i | .str x => .str x | _ => .non
theorem flat_vD {K : PySem.W.Frag} {c : CEnv} {S : Option Addr} {G : Hp} {v : V} (h : flatV v = true) : Rp K c S G v (vD v) := by
  cases v <;> first | (cases h; done) | constructor
theorem flats_vD {K : PySem.W.Frag} {c : CEnv} {S : Option Addr} {G : Hp} : ∀ {vs : List V}, vs.all flatV = true → RpA K c S G vs (vs.map vD)
  | [], _ => .nil
  | v :: vs, h => by rw [List.all_cons, Bool.and_eq_true] at h; exact .cons (flat_vD h.1) (flats_vD h.2)
def pCstT (xs : List V) : PEx := fun _ Q => Q (.tup (xs.map vD))
theorem sim_cstT {xs : List V} (h : xs.all flatV = true := by rfl) (hm : homV xs = true := by rfl) : SimE N (tCstT N.K xs) (pCstT xs) := fun w H0 B aw ow H σ ρ Q Q' r q k => fun T e => k.flat r (.tup (.inr ⟨e _, hm⟩) (flats_vD h)) q
end
def startP (n : Nat) (ds : List Da) : PEnv := ds.map (fun d => some (.d d)) ++ List.replicate (n - ds.length) none
section
variable {K : PySem.W.Frag} {c : CEnv}
theorem start_rel {S : Option (Addr × Addr)} {O : List Addr} {H : Hp} {vs : List V} {ds : List Da} {Nn : List Str} (oc : Occ H O ∧ LamX.Tabs c.tb H) (dr : ∀ st L, S = some (st, L) → Draw H st L ∧ st ∈ O) (r : RpA K c (S.map (·.1)) (hid H O) vs ds) :
    Rel K c ⟨S, O, (S.map (·.1)).toList, none, fun _ => none⟩ H (hid H O) [] H (L2.start Nn vs) (startP Nn.length ds) := by
  refine ⟨oc.1, fun st L e => ?_, fun p h => by (cases h), fun p h => by (cases h), fun a o _ _ e => e, fun p h => by (cases h), ?_, fun i x e => ?_, Same.refl _, oc.2⟩
  · have e : S = some (st, L) := e
    refine ⟨(dr st L e).1, (dr st L e).2, ?_⟩
    subst e; simp
  · unfold L2.start startP
    simp [rpsLen r]
  · unfold startP at e
    have hl := rpsLen r
    rw [List.getElem?_append] at e
    split at e
    · rename_i lt
      rw [List.length_map] at lt
      rw [List.getElem?_map] at e
      cases ed : ds[i]? with
      | none => rw [ed] at e; cases e
      | some d =>
        rw [ed] at e
        cases e
        obtain ⟨v, ev, rv⟩ := rpsGet r ed
        refine ⟨v, ?_, rv⟩
        unfold L2.start
        rw [List.getElem?_append_left (by rw [List.length_map]; omega), List.getElem?_map, ev]; rfl
    · rw [List.getElem?_replicate] at e
      split at e <;> cases e
theorem Rel.exO {S : Option (Addr × Addr)} {O : List Addr} {H0 B H : Hp} {ow : Ow} {σ : L2.St} {ρ : PEnv} (r : Rel K c ⟨S, O, (S.map (·.1)).toList, none, fun _ => none⟩ H0 B ow H σ ρ) : ExC c S H0 H := by
  refine ⟨⟨fun a o n t e => r.fr a o (fun m => ?_) t e, fun st L e => (r.dr st L e).1⟩, r.tb⟩
  cases S with
  | none => simp at m
  | some z => obtain ⟨st, L⟩ := z; simp at m; exact n st L rfl m
theorem out_rp {S : Option (Addr × Addr)} {O M : List Addr} {H : Hp} {ow : Ow} {v : V} {d : Da} (h : Rp K c (S.map (·.1)) (dh ⟨S, O, M, none, fun _ => none⟩ ow H) v d) : Rp K c (S.map (·.1)) (hid H O) v d := rpS (hid_sub fun a ha => List.mem_append_right _ ha) h
theorem wd_lift {T : TS} {P : PSt} {Nn : List Str} {n : Nat} {ps : PSp} (hS : SimS ⟨K, c, W0, fun _ _ => False⟩ T P) (hp : ∀ ds Q E, ps ds Q E → ds.length = n ∧ P { nx := fun _ => Q .non, rt := Q } (startP Nn.length ds)) : Wd T Nn n (lift K c ps) := by
  rintro vs H Q E ⟨S, O, ds, Q', E', oc, dr, r, p, q, _⟩
  obtain ⟨hl, z⟩ := hp ds Q' E' p
  refine ⟨(rpsLen r).trans hl, ?_⟩
  refine hS ⟨S, O, (S.map (·.1)).toList, none, fun _ => none⟩ H (hid H O) (fun _ _ _ _ _ _ f => f.elim) [] H _ _ _ { nx := fun _ => Q' .non, rt := Q' } ⟨fun ow H1 σ ρ r1 q1 => q _ _ H1 r1.exO .non q1, fun _ _ _ _ _ f => f.elim, fun _ _ _ _ _ f => f.elim, fun ow H1 σ ρ v d r1 h1 q1 => q v d H1 r1.exO (out_rp h1) q1, fun _ _ _ _ _ _ _ _ f => f.elim⟩ (start_rel oc dr r) z
theorem wd_liftX {T : WX → TS} {P : WP → PSt} {Nn : List Str} {n : Nat} {ps : PSp} (hS : ∀ W Wp, SimS ⟨K, c, W, Wp⟩ (T W) (P Wp)) (hp : ∀ ds Q E, ps ds Q E → ds.length = n ∧ P (fun x _ => E x) { nx := fun _ => Q .non, rt := Q } (startP Nn.length ds)) : WdX T Nn n (lift K c ps) := by
  rintro vs H Q E ⟨S, O, ds, Q', E', oc, dr, r, p, q, qe⟩
  obtain ⟨hl, z⟩ := hp ds Q' E' p
  refine ⟨(rpsLen r).trans hl, ?_⟩
  refine hS _ _ ⟨S, O, (S.map (·.1)).toList, none, fun _ => none⟩ H (hid H O) (fun x ow H1 σ ρ r1 e1 => qe x H1 r1.exO e1) [] H _ _ _ { nx := fun _ => Q' .non, rt := Q' } ⟨fun ow H1 σ ρ r1 q1 => q _ _ H1 r1.exO .non q1, fun _ _ _ _ _ f => f.elim, fun _ _ _ _ _ f => f.elim, fun ow H1 σ ρ v d r1 h1 q1 => q v d H1 r1.exO (out_rp h1) q1, fun _ _ _ _ _ _ _ _ f => f.elim⟩ (start_rel oc dr r) z
def startI (x : Str) (gs : List Str) (n : Nat) (ds : List Da) : PEnv := some (.obj x gs [] []) :: startP (n - 1) ds
theorem start_relI {S : Option (Addr × Addr)} {O : List Addr} {H : Hp} {vs : List V} {ds : List Da} {Nn : List Str} {x : Str} {gs : List Str} {p dx : Addr} (oc : Occ H O ∧ LamX.Tabs c.tb H) (dr : ∀ st L, S = some (st, L) → Draw H st L ∧ st ∈ O ∧ p ≠ st ∧ p ≠ L) (ok : ClsOk K c x gs) (hp : H p = some (.ins (c.cls x) dx [])) (np : p ∉ O) (r : RpA K c (S.map (·.1)) (hid H (p :: O)) vs ds) (hn : 0 < Nn.length) :
    Rel K c ⟨S, O, p :: (S.map (·.1)).toList, some p, fun _ => none⟩ H (hid H (p :: O)) [(0, p)] H (L2.start Nn (.ref p :: vs)) (startI x gs Nn.length ds) := by
  obtain ⟨n0, Nr, rfl⟩ : ∃ a l, Nn = a :: l := by cases Nn with | nil => simp at hn | cons a l => exact ⟨a, l, rfl⟩
  refine ⟨Occ.cons hp oc.1, fun st L e => ?_, fun q h => ?_, fun q h q' h' _ => ?_, fun a o _ _ e => e, fun q h => ?_, ?_, fun i y e => ?_, Same.refl _, oc.2⟩
  · have e : S = some (st, L) := e
    refine ⟨(dr st L e).1, (dr st L e).2.1, ?_⟩
    subst e; simp
  · obtain rfl := List.mem_singleton.mp h
    exact ⟨fun st L e => (dr st L e).2.2, np⟩
  · rw [List.mem_singleton.mp h, List.mem_singleton.mp h']
  · obtain rfl := List.mem_singleton.mp h
    exact .inr (List.mem_cons_self ..)
  · unfold L2.start startI startP
    simp [rpsLen r]
  · unfold startI at e
    cases i with
    | zero =>
      cases e
      exact ⟨p, dx, [], List.mem_cons_self .., by unfold L2.start; rfl, ⟨ok, rfl⟩, by rw [hp]; rfl, rfl, .nil⟩
    | succ i =>
      rw [List.getElem?_cons_succ] at e
      unfold startP at e
      have hl := rpsLen r
      rw [List.getElem?_append] at e
      split at e
      · rename_i lt
        rw [List.length_map] at lt
        rw [List.getElem?_map] at e
        cases ed : ds[i]? with
        | none => rw [ed] at e; cases e
        | some d =>
          rw [ed] at e
          cases e
          obtain ⟨v, ev, rv⟩ := rpsGet r ed
          refine ⟨v, ?_, rv⟩
          unfold L2.start
          rw [List.map_cons, List.cons_append, List.getElem?_cons_succ, List.getElem?_append_left (by rw [List.length_map]; omega), List.getElem?_map, ev]; rfl
      · rw [List.getElem?_replicate] at e
        split at e <;> cases e
theorem Rel.exI {S : Option (Addr × Addr)} {O : List Addr} {p : Addr} {H0 B H : Hp} {ow : Ow} {σ : L2.St} {ρ : PEnv} (r : Rel K c ⟨S, O, p :: (S.map (·.1)).toList, some p, fun _ => none⟩ H0 B ow H σ ρ) : (∀ a o, (∀ st L, S = some (st, L) → a ≠ st) → a ≠ p → Nt o → H0 a = some o → H a = some o) ∧ (∀ st L, S = some (st, L) → Draw H st L) ∧ LamX.Tabs c.tb H := by
  refine ⟨fun a o n np t e => r.fr a o (fun m => ?_) t e, fun st L e => (r.dr st L e).1, r.tb⟩
  cases S with
  | none => simp at m; exact np m
  | some z =>
    obtain ⟨st, L⟩ := z; simp at m
    rcases m with m | m
    · exact np m
    · exact n st L rfl m
def endI (x : Str) (gs : List Str) (Q : List Da → Prop) : PEnv → Prop := fun ρ => ∃ l, ρ[0]? = some (some (.obj x gs gs l)) ∧ Q l
theorem end_rpI {S : Option (Addr × Addr)} {O : List Addr} {p : Addr} {H0 B H : Hp} {ow : Ow} {σ : L2.St} {ρ : PEnv} {x : Str} {gs : List Str} {l : List Da} (r : Rel K c ⟨S, O, p :: (S.map (·.1)).toList, some p, fun _ => none⟩ H0 B ow H σ ρ) (e : ρ[0]? = some (some (.obj x gs gs l))) : Rp K c (S.map (·.1)) (hid H O) (.ref p) (.ins x gs l) := by
  obtain ⟨b, dx, vs, m, es, ⟨ok, eq⟩, eb, hl, rl⟩ := r.sl 0 _ e
  obtain rfl : p = b := Option.some.inj eq
  exact .ins ok (hid_lk (r.nd _ m).2 eb) hl (rpsS (hid_sub fun a ha => List.mem_append_right _ ha) rl)
theorem end_rpJ {S : Option (Addr × Addr)} {O : List Addr} {p : Addr} {H0 B H : Hp} {ow : Ow} {σ : L2.St} {ρ : PEnv} {x : Str} {gs : List Str} {l : List Da} (r : Rel K c ⟨S, O, p :: (S.map (·.1)).toList, some p, fun _ => none⟩ H0 B ow H σ ρ) (e : ρ[0]? = some (some (.obj x gs gs l))) : ∃ d2 xs, H p = some (.ins (c.cls x) d2 (gs.zip xs)) ∧ l.length = gs.length ∧ RpA K c (S.map (·.1)) (hid H (p :: O)) xs l := by
  obtain ⟨b, dx, vs, m, es, ⟨ok, eq⟩, eb, hl, rl⟩ := r.sl 0 _ e
  obtain rfl : p = b := Option.some.inj eq
  refine ⟨dx, vs, eb, hl, rpsS (hid_sub fun a ha => ?_) rl⟩
  rcases List.mem_cons.mp ha with rfl | ha
  · exact List.mem_append_left _ (List.mem_map_of_mem (f := (·.2)) m)
  · exact List.mem_append_right _ ha
theorem wd_liftI {T : TS} {P : PSt} {Nn : List Str} {n : Nat} {x : Str} {gs : List Str} {ps : PSi} (hS : SimS ⟨K, c, W0, fun _ _ => False⟩ T P) (hn : 0 < Nn.length) (hp : ∀ ds Q E, ps ds Q E → ds.length + 1 = n ∧ P { nx := endI x gs Q, rt := fun _ => False } (startI x gs Nn.length ds)) : Wd T Nn n (liftI K c x gs ps) := by
  rintro us H Q E ⟨S, O, p, dx, vs, ds, Q', E', rfl, oc, dr, ok, hp', np, r, z, q, _⟩
  obtain ⟨hl, z⟩ := hp ds Q' E' z
  refine ⟨by rw [List.length_cons, rpsLen r]; exact hl, ?_⟩
  refine hS ⟨S, O, p :: (S.map (·.1)).toList, some p, fun _ => none⟩ H _ (fun _ _ _ _ _ _ f => f.elim) _ H _ _ _ { nx := endI x gs Q', rt := fun _ => False } ⟨fun ow H1 σ ρ r1 ⟨l, e1, q1⟩ => q l H1 r1.exI.1 r1.exI.2 (end_rpI r1 e1) (end_rpJ r1 e1) q1, fun _ _ _ _ _ f => f.elim, fun _ _ _ _ _ f => f.elim, fun _ _ _ _ _ _ _ _ f => f.elim, fun _ _ _ _ _ _ _ _ f => f.elim⟩ (start_relI oc dr ok hp' np r hn) z
theorem wd_liftIX {T : WX → TS} {P : WP → PSt} {Nn : List Str} {n : Nat} {x : Str} {gs : List Str} {ps : PSi} (hS : ∀ W Wp, SimS ⟨K, c, W, Wp⟩ (T W) (P Wp)) (hn : 0 < Nn.length) (hp : ∀ ds Q E, ps ds Q E → ds.length + 1 = n ∧ P (fun y _ => E y) { nx := endI x gs Q, rt := fun _ => False } (startI x gs Nn.length ds)) : WdX T Nn n (liftI K c x gs ps) := by
  rintro us H Q E ⟨S, O, p, dx, vs, ds, Q', E', rfl, oc, dr, ok, hp', np, r, z, q, qe⟩
  obtain ⟨hl, z⟩ := hp ds Q' E' z
  refine ⟨by rw [List.length_cons, rpsLen r]; exact hl, ?_⟩
  refine hS _ _ ⟨S, O, p :: (S.map (·.1)).toList, some p, fun _ => none⟩ H _ (fun y ow H1 σ ρ r1 e1 => qe y H1 r1.exI.1 r1.exI.2 e1) _ H _ _ _ { nx := endI x gs Q', rt := fun _ => False } ⟨fun ow H1 σ ρ r1 ⟨l, e1, q1⟩ => q l H1 r1.exI.1 r1.exI.2 (end_rpI r1 e1) (end_rpJ r1 e1) q1, fun _ _ _ _ _ f => f.elim, fun _ _ _ _ _ f => f.elim, fun _ _ _ _ _ _ _ _ f => f.elim, fun _ _ _ _ _ _ _ _ f => f.elim⟩ (start_relI oc dr ok hp' np r hn) z
end

namespace ZG
open PySem PySem.SeqAt GQ
open MeetsSeq MeetsSeq2 MeetsSeq3 SeqRoads2
section
variable {prog : Program} {w : World} {A : Around} {R : Result → Shared → Prop}
end
section
variable {prog : Program} {w : World} {A : Around} {E : Value → Shared → Prop} {s : Shared}
end
end ZG

abbrev ETab := List (Str × PSp)
def CqX (tab : ETab) : Nat → Da → Da → Prop
  | 0, x, y => flD x = true ∧ flD y = true
  | n + 1, x, y => (flD x = true ∧ flD y = true) ∨ (∃ a b, x = .tup a ∧ y = .tup b ∧ ∀ (i : Nat) (u v : Da), a[i]? = some u → b[i]? = some v → CqX tab n u v) ∨
      (∃ a b, x = .lst a ∧ y = .lst b ∧ ∀ (i : Nat) (u v : Da), a[i]? = some u → b[i]? = some v → CqX tab n u v) ∨
      ∃ k ks a, x = .ins k ks a ∧ (∃ ps, (k, ps) ∈ tab ∧ ps [x, y] (fun r => r = .bl (eqD x y)) (fun _ => False)) ∧ eqD x x = true ∧ ((∃ k2 ks2 b, y = .ins k2 ks2 b ∧ (k2 = k ∨ ((∃ ps2, (k2, ps2) ∈ tab) ∧ SUB k2 k = false))) ∨ okTy y = true)
section
variable {X : Cx} {c : CEnv} {k : Nat} {tab : ETab} {S : Option (Addr × Addr)} {O : List Addr}
def GoodH (c : CEnv) (S : Option (Addr × Addr)) (O : List Addr) (H : Hp) : Prop := (Occ H O ∧ LamX.Tabs c.tb H) ∧ ∀ st L, S = some (st, L) → Draw H st L ∧ st ∈ O
theorem GoodH.ex {H H' : Hp} (g : GoodH c S O H) (x : ExC c S H H') : GoodH c S O H' := ⟨⟨g.1.1.ex x.1, x.2⟩, fun st L e => ⟨x.1.2 st L e, (g.2 st L e).2⟩⟩
theorem ExC.trans {H H1 H2 : Hp} (x : ExC c S H H1) (y : ExC c S H1 H2) : ExC c S H H2 := ⟨Ex.trans x.1 y.1, y.2⟩
theorem ExC.at {H : Hp} (g : GoodH c S O H) : ExC c S H H := ⟨Ex.of (Same.refl H) fun st L e => (g.2 st L e).1, g.1.2⟩
def RcGX (X : Cx) (c : CEnv) (n : Nat) (S : Option (Addr × Addr)) (O : List Addr) (d e : Da) : Prop := ∀ (A : Around) (pins : List (Addr × Obj)) (s : Shared) (σ : L2.St) (H : Hp) (x y : V) (u v : Value), Sub X n A → Inv X pins σ H s → GoodH c S O H → RelV x u → RelV y v → Rp X.K c (S.map (·.1)) (hid H O) x d → Rp X.K c (S.map (·.1)) (hid H O) y e →
  wpAny (model X.prog X.w) A (richCompare .Eq u v) (fun r s' => r = .bool (eqD d e) ∧ ∃ H', Inv X pins σ H' s' ∧ ExC c S H H') X.xe s
theorem zip_inj {α : Type} : ∀ {ks ls : List Str} {vs us : List α}, vs.length = ks.length → us.length = ls.length → ks.zip vs = ls.zip us → ks = ls ∧ vs = us
  | [], [], [], [], _, _, _ => ⟨rfl, rfl⟩
  | [], [], v :: vs, _, h, _, _ => by simp at h
  | [], [], [], u :: us, _, h, _ => by simp at h
  | [], l :: ls, _, [], _, h, _ => by simp at h
  | [], l :: ls, _, u :: us, _, _, e => by simp at e
  | k :: ks, _, [], _, h, _, _ => by simp at h
  | k :: ks, [], v :: vs, us, _, _, e => by simp at e
  | k :: ks, l :: ls, v :: vs, [], _, h, _ => by simp at h
  | k :: ks, l :: ls, v :: vs, u :: us, h1, h2, e => by
    rw [List.zip_cons_cons, List.zip_cons_cons] at e
    injection e with e1 e2
    injection e1 with e3 e4
    obtain ⟨a, b⟩ := zip_inj (by simpa using h1) (by simpa using h2) e2
    exact ⟨by rw [e3, a], by rw [e4, b]⟩
theorem tup_not_lst {pins : List (Addr × Obj)} {σ : L2.St} {H : Hp} {s : Shared} {a : Addr} {xs ys : List V} (I : Inv X pins σ H s) (h1 : SqT X.K H a xs) (h2 : H a = some (.lst ys)) : False := by
  obtain ⟨_, _, ⟨o, e, c, _⟩, _⟩ := I.tuple h1
  obtain ⟨_, _, p, _⟩ := I.list (SqL.of h2)
  obtain ⟨o2, n, e2, c2, _⟩ := p
  rw [e] at e2
  cases e2
  have z := c.symm.trans c2
  injection z with z
  exact absurd z (by decide)
theorem tup_not_ins {pins : List (Addr × Obj)} {σ : L2.St} {H : Hp} {s : Shared} {a C dx : Addr} {xs : List V} {fs : List (Str × V)} (I : Inv X pins σ H s) (h1 : SqT X.K H a xs) (h2 : H a = some (.ins C dx fs)) : False := by
  obtain ⟨_, _, ⟨o, e, c, _⟩, _⟩ := I.tuple h1
  obtain ⟨m, J, _⟩ := ins_get I.hok h2
  have z := J.obj
  rw [e] at z
  cases z
  cases c
mutual
theorem Rp.det {pins : List (Addr × Obj)} {σ : L2.St} {H : Hp} {s : Shared} (I : Inv X pins σ H s) (g : GoodH c S O H) : ∀ (d : Da) (v : V) (e : Da), Rp X.K c (S.map (·.1)) (hid H O) v d → Rp X.K c (S.map (·.1)) (hid H O) v e → d = e
  | .non, _, e, h1, h2 => by cases h1; cases h2; rfl
  | .bl _, _, e, h1, h2 => by cases h1; cases h2; rfl
  | .int _, _, e, h1, h2 => by cases h1; cases h2; rfl
  | .str _, _, e, h1, h2 => by cases h1; cases h2; rfl
  | .ty _, _, e, h1, h2 => by cases h1; cases h2; rfl
  | .st, v, e, h1, h2 => by
    obtain ⟨a, ha, rfl⟩ := rpSt h1
    obtain ⟨L, hs⟩ : ∃ L, S = some (a, L) := by
      cases S with
      | none => cases ha
      | some z => cases ha; exact ⟨z.2, rfl⟩
    obtain ⟨dr, hO⟩ := g.2 _ _ hs
    cases h2 with
    | st _ => rfl
    | tup hq _ =>
      obtain ⟨_, _, _, e1, _⟩ := dr.ex
      exact (tup_not_lst I (Same.sqT hid_le hq.sq) e1).elim
    | lst hq _ => rw [hid_in hO] at hq; cases hq
    | ins _ hq _ _ => rw [hid_in hO] at hq; cases hq
  | .tup ds, v, e, h1, h2 => by
    obtain ⟨a, xs, rfl, e1, r1⟩ := rpT h1
    cases h2 with
    | st hs =>
      obtain ⟨L, hs⟩ : ∃ L, S = some (a, L) := by
        cases S with
        | none => cases hs
        | some z => cases hs; exact ⟨z.2, rfl⟩
      obtain ⟨_, _, _, e2, _⟩ := (g.2 _ _ hs).1.ex
      exact (tup_not_lst I (Same.sqT hid_le e1) e2).elim
    | tup hq hr =>
      obtain rfl := I.tuple_inj (Same.sqT hid_le e1) (Same.sqT hid_le hq.sq)
      rw [RpA.det I g ds _ _ r1 hr]
    | lst hq _ => exact (tup_not_lst I (Same.sqT hid_le e1) (hid_le _ _ hq)).elim
    | ins _ hq _ _ => exact (tup_not_ins I (Same.sqT hid_le e1) (hid_le _ _ hq)).elim
  | .lst ds, v, e, h1, h2 => by
    obtain ⟨a, xs, rfl, e1, r1⟩ := rpL h1
    cases h2 with
    | st hs =>
      obtain ⟨L, hs⟩ : ∃ L, S = some (a, L) := by
        cases S with
        | none => cases hs
        | some z => cases hs; exact ⟨z.2, rfl⟩
      rw [hid_in (g.2 _ _ hs).2] at e1; cases e1
    | tup hq hr => exact (tup_not_lst I (Same.sqT hid_le hq.sq) (hid_le _ _ e1)).elim
    | lst hq hr =>
      rw [e1] at hq
      cases hq
      rw [RpA.det I g ds _ _ r1 hr]
    | ins _ hq _ _ => rw [e1] at hq; cases hq
  | .ins x ks ds, v, e, h1, h2 => by
    obtain ⟨a, dx, xs, rfl, ok, e1, hl, r1⟩ := rpO h1
    cases h2 with
    | st hs =>
      obtain ⟨L, hs⟩ : ∃ L, S = some (a, L) := by
        cases S with
        | none => cases hs
        | some z => cases hs; exact ⟨z.2, rfl⟩
      rw [hid_in (g.2 _ _ hs).2] at e1; cases e1
    | tup hq hr => exact (tup_not_ins I (Same.sqT hid_le hq.sq) (hid_le _ _ e1)).elim
    | lst hq _ => rw [e1] at hq; cases hq
    | ins ok2 hq hl2 hr =>
      rw [e1] at hq
      injection hq with hq
      injection hq with c1 _ z
      obtain rfl := ok.inj _ ok2.al c1
      have l1 := rpsLen r1
      have l2 := rpsLen hr
      obtain ⟨rfl, rfl⟩ := zip_inj (by omega) (by omega) z
      rw [RpA.det I g ds _ _ r1 hr]
theorem RpA.det {pins : List (Addr × Obj)} {σ : L2.St} {H : Hp} {s : Shared} (I : Inv X pins σ H s) (g : GoodH c S O H) : ∀ (ds : List Da) (vs : List V) (es : List Da), RpA X.K c (S.map (·.1)) (hid H O) vs ds → RpA X.K c (S.map (·.1)) (hid H O) vs es → ds = es
  | [], _, es, h1, h2 => by cases h1; cases h2; rfl
  | d :: ds, _, es, h1, h2 => by
    obtain ⟨v, ws, rfl, a, b⟩ := rpsC h1
    obtain ⟨e, es', rfl, a2, b2⟩ := rpsC' h2
    rw [Rp.det I g d v e a a2, RpA.det I g ds ws es' b b2]
end
theorem eq0_refl : ∀ d : Da, flD d = true → eq0 d d = true
  | .non, _ => rfl
  | .bl b, _ => by simp [eq0]
  | .int b, _ => by simp [eq0]
  | .str b, _ => by simp [eq0]
  | .st, h => by cases h
  | .ty _, h => by cases h
  | .tup _, h => by cases h
  | .lst _, h => by cases h
  | .ins _ _ _, h => by cases h
theorem eqD_flat {d e : Da} (h1 : flD d = true) (h2 : flD e = true) : eqD d e = eq0 d e := by
  cases d <;> first | (cases h1; done) | skip
  all_goals cases e <;> first | (cases h2; done) | (simp only [eqD])
theorem eqDs_refl : ∀ {l : List Da}, (∀ d ∈ l, eqD d d = true) → eqDs l l = true
  | [], _ => rfl
  | d :: l, h => by unfold eqDs; rw [h d (List.mem_cons_self ..), eqDs_refl fun x hx => h x (List.mem_cons_of_mem _ hx)]; rfl
theorem CqX.refl : ∀ {n : Nat} {d : Da}, CqX tab n d d → eqD d d = true
  | 0, d, h => by rw [eqD_flat h.1 h.2]; exact eq0_refl d h.1
  | n + 1, d, h => by
    rcases h with h | ⟨a, b, rfl, e, h⟩ | ⟨a, b, rfl, e, h⟩ | ⟨k, ks, a, rfl, _, h, _⟩
    · rw [eqD_flat h.1 h.2]; exact eq0_refl d h.1
    · cases e
      simp only [eqD]
      exact eqDs_refl fun x hx => by
        obtain ⟨i, hi⟩ := List.mem_iff_getElem?.mp hx
        exact CqX.refl (h i x x hi hi)
    · cases e
      simp only [eqD]
      exact eqDs_refl fun x hx => by
        obtain ⟨i, hi⟩ := List.mem_iff_getElem?.mp hx
        exact CqX.refl (h i x x hi hi)
    · exact h
theorem RcGX.mono {n m : Nat} {d e : Da} (h : RcGX X c n S O d e) (l : n ≤ m) : RcGX X c m S O d e := fun A pins s σ H x y u v sb => h A pins s σ H x y u v (sb.mono l)
end
section
variable {N : Cn}
end

def pNewL (p : PAr) : PAr := fun ρ Q => p ρ fun ds => ds.length ≤ 100000 ∧ Q ds
def listF1 (ds : List Da) (Q : List Da → Prop) : Prop := match ds with
  | [.lst l] => Q l
  | [.tup l] => Q l
  | _ => False
def pListF (p : PAr) : PAr := fun ρ Q => p ρ fun ds => listF1 ds Q
def addF1 (x y : Da) (Q : List Da → Prop) : Prop := match x, y with
  | .lst l, .lst m => l.length + m.length ≤ 100000 ∧ Q (l ++ m)
  | _, _ => False
def pAddF (a b : PEx) : PAr := fun ρ Q => a ρ fun x => b ρ fun y => addF1 x y Q
def slF1 (d : Da) (lo hi : Option Int) (Q : List Da → Prop) : Prop := match d with
  | .lst xs => Q (cutD xs lo hi)
  | _ => False
def pSlF (a : PEx) (l h : POp) : PAr := fun ρ Q => a ρ fun d => l ρ fun lo => h ρ fun hi => slF1 d lo hi Q
section
variable {N : Cn} {w : Pw} {H0 B H H' : Hp} {ow : Ow} {σ : L2.St} {ρ : PEnv}
end

def ps_law_next : PSp := fun ds Q _ => ∃ m : Int, ds = [.st, .int m] ∧ 0 < m ∧ m < 1000000000000000000 ∧ ∀ r : Int, 0 ≤ r → r < m → Q (.int r)
theorem b_law_next {K : PySem.W.Frag} {c : CEnv} : SpSim K c (sp_law_next K) ps_law_next := by
  rintro S O H vs ds Q E Q' E' oc dr r ⟨m, rfl, h0, h1, q⟩ k _
  obtain ⟨v, u, rfl, a, b⟩ := rps2 r
  cases b
  obtain ⟨st, hs, rfl⟩ := rpSt a
  obtain ⟨L, hs⟩ : ∃ L, S = some (st, L) := by
    cases S with
    | none => cases hs
    | some z => cases hs; exact ⟨z.2, rfl⟩
  refine ⟨st, L, m, rfl, (dr _ _ hs).1, h0, h1, fun r H' h2 h3 d _ ne => k _ _ H' ⟨⟨fun a o n _ e => ?_, fun st' L' e => ?_⟩, ?_⟩ (.int r) (q r h2 h3)⟩
  · rw [ne a (n _ _ hs)]; exact e
  · rw [hs] at e; cases e; exact d
  · obtain ⟨oS, eS, nS⟩ := (dr _ _ hs).1.occP
    intro p hp
    obtain ⟨ps, h1, h2, h3⟩ := oc.2 p hp
    refine ⟨ps, (ne _ (fun z => ?_)).trans h1, h2, fun pos cv hc => ?_⟩
    · rw [← z, h1] at eS; cases eS; exact nS.1 _ rfl
    · obtain ⟨c', e1, e2⟩ := h3 pos cv hc
      refine ⟨c', e1, (ne _ (fun z => ?_)).trans e2⟩
      rw [← z, e2] at eS; cases eS; exact nS.2 _ rfl
theorem next_c {n : Int} {Q : Da → Prop} {E : Str → Prop} (h0 : 0 < n) (h1 : n < 1000000000000000000) (k : ∀ r : Int, 0 ≤ r → r < n → Q (.int r)) : ps_law_next [.st, .int n] Q E := ⟨n, rfl, h0, h1, k⟩
def sp_lawT (K : PySem.W.Frag) (c : CEnv) : Sp := fun vs H Q _ => ∃ (a : Addr) (ns : List Int), vs = [.ref a] ∧ SqL K H a (ns.map V.int) ∧ ns.length ≤ 63 ∧ LamX.Tabs c.tb H ∧ ∀ H', Q (.bl true) H'
theorem wd_law {K : PySem.W.Frag} {c : CEnv} {T : TS} {P : PSt} {Nn : List Str} {m : Nat} (hS : SimS ⟨K, c, W0, fun _ _ => False⟩ T P) (hn : Nn.length = m + 2) (hp : P { nx := fun _ => False, rt := fun d => d = .bl true } (none :: some (.d .st) :: List.replicate m none)) :
    Wd (tSeq (tAsg (tLst (tCons (tCB (uList K) (tCons (tVar 0) tNil)) (tCons (tC (.int 0)) (tCons (tC (.int 0)) tNil)))) (gName 1)) T) Nn 1 (sp_lawT K c) := by
  rintro vs H Q E ⟨a, ns, rfl, ha, hl, tb, q⟩
  refine ⟨rfl, ?_⟩
  have es : L2.start Nn [V.ref a] = some (V.ref a) :: none :: List.replicate m none := by
    unfold L2.start; rw [hn]; rfl
  rw [es]
  refine z_seq (z_asg (z_lst (z_cons (z_cb (z_cons (z_var rfl (z_nil ?_)))))))
  refine z_list (.inl ha) fun L hL => ?_
  refine z_cons (z_c (z_cons (z_c (z_nil ?_))))
  refine z_newL (by simp) fun st hst => ?_
  have d := Draw.start (ns := ns) hL hst
  have tb := tabs_free (o := .lst [V.ref L, V.int 0, V.int 0]) hst (tabs_free (o := .lst (ns.map V.int)) hL tb)
  show T _ (some (V.ref a) :: some (.ref st) :: List.replicate m none) _
  obtain ⟨oS, hS0, nS⟩ := d.occP
  generalize upd (upd H L (HO.lst (List.map V.int ns))) st (HO.lst [V.ref L, V.int 0, V.int 0]) = G at *
  refine hS ⟨some (st, L), [st], [st], none, fun _ => none⟩ G (hid G [st]) (fun _ _ _ _ _ _ f => f.elim) [] _ _ (none :: some (.d .st) :: List.replicate m none) _ { nx := fun _ => False, rt := fun d => d = .bl true } ⟨fun _ _ _ _ _ f => f.elim, fun _ _ _ _ _ f => f.elim, fun _ _ _ _ _ f => f.elim, fun ow H1 σ ρ v d r1 h1 q1 => ?_, fun _ _ _ _ _ _ _ _ f => f.elim⟩ ?_ hp
  · have q1 : d = .bl true := q1
    subst q1
    rw [rpB h1]
    exact q H1
  · refine ⟨?_, fun st' L' e => ?_, fun p h => by (cases h), fun p h => by (cases h), fun a o _ _ e => e, fun p h => by (cases h), ?_, fun i x e => ?_, Same.refl _, tb⟩
    · exact Occ.cons hS0 Occ.nil nS
    · cases e; exact ⟨d, List.mem_cons_self .., List.mem_cons_self ..⟩
    · simp
    · match i with
      | 0 => cases e
      | 1 => cases e; exact ⟨.ref st, rfl, .st rfl⟩
      | i + 2 =>
        rw [List.getElem?_cons_succ, List.getElem?_cons_succ, List.getElem?_replicate] at e
        split at e <;> cases e

section
variable {ρ : PEnv} {Q : Da → Prop} {QA : List Da → Prop} {QB : Bool → Prop} {d x y : Da} {i j : Int} {n : Nat} {a b e : PEx} {t u : PAr} {c c2 : PTe} {D : PD} {p q : PSt} {l l2 ds : List Da} {s s2 f : Str} {bb b2 : Bool} {ps : PSp} {g : PTg} {Wp : WP} {r r2 : PR2} {k : Nat}
theorem p_var (h : ρ[n]? = some (some (.d d))) (k : Q d) : pVar n ρ Q := ⟨d, h, k⟩
theorem p_c (k : Q d) : pC d ρ Q := k
theorem p_nil (k : QA []) : pNil ρ QA := k
theorem p_cons (k : a ρ fun x => t ρ fun xs => QA (x :: xs)) : pCons a t ρ QA := k
theorem p_op (k : a ρ fun x => b ρ fun y => r x y Q) : pOp r a b ρ Q := k
theorem p_un {r1 : PR1} (k : a ρ fun x => r1 x Q) : pUn r1 a ρ Q := k
theorem p_cb {rl : PRl} (k : t ρ fun x => rl x Q) : pCB rl t ρ Q := k
theorem p_lst (k : t ρ fun ds => ds.length ≤ 100000 ∧ Q (.lst ds)) : pLst t ρ Q := k
theorem p_tup (k : t ρ fun ds => ds.length ≤ 100000 ∧ Q (.tup ds)) : pTup t ρ Q := k
theorem p_nl {P : Prop} (h : ds.length ≤ 100000) (k : P) : ds.length ≤ 100000 ∧ P := ⟨h, k⟩
theorem p_test (k : a ρ fun d => ∃ b, d = .bl b ∧ QB b) : pTest a ρ QB := k
theorem p_bl {P : Bool → Prop} (k : P bb) : ∃ b, Da.bl bb = .bl b ∧ P b := ⟨bb, rfl, k⟩
theorem p_tru (k : a ρ fun d => ∃ b, truD d b ∧ QB b) : pTru a ρ QB := k
theorem p_trb {P : Bool → Prop} (k : P bb) : ∃ b, truD (.bl bb) b ∧ P b := ⟨bb, rfl, k⟩
theorem p_tri {P : Bool → Prop} (k : P (i != 0)) : ∃ b, truD (.int i) b ∧ P b := ⟨_, rfl, k⟩
theorem p_trl {P : Bool → Prop} (k : P (!l.isEmpty)) : ∃ b, truD (.lst l) b ∧ P b := ⟨_, rfl, k⟩
theorem p_trt {P : Bool → Prop} (k : P (!l.isEmpty)) : ∃ b, truD (.tup l) b ∧ P b := ⟨_, rfl, k⟩
theorem p_trn {P : Bool → Prop} (k : P false) : ∃ b, truD .non b ∧ P b := ⟨_, rfl, k⟩
theorem p_and (k : c ρ fun b => if b = true then c2 ρ QB else QB false) : pAnd c c2 ρ QB := k
theorem p_or (k : c ρ fun b => if b = true then QB true else c2 ρ QB) : pOr c c2 ρ QB := k
theorem p_not (k : c ρ fun b => QB (!b)) : pNot c ρ QB := k
theorem p_andV (k : a ρ fun x => ∃ k, x = .bl k ∧ if k = true then b ρ Q else Q (.bl false)) : pAndV a b ρ Q := k
theorem p_orV (k : a ρ fun x => ∃ k, x = .bl k ∧ if k = true then Q (.bl true) else b ρ Q) : pOrV a b ρ Q := k
theorem p_notV (k : a ρ fun x => ∃ k, x = .bl k ∧ Q (.bl (!k))) : pNotV a ρ Q := k
theorem p_if (k : c ρ fun k => if k = true then a ρ Q else b ρ Q) : pIf c a b ρ Q := k
theorem p_chain (k : a ρ fun x => b ρ fun y => r x y fun z => ∃ k, z = .bl k ∧ if k = true then e ρ fun u => r2 y u Q else Q (.bl false)) : pChain r r2 a b e ρ Q := k
theorem p_yes (k : QB true) : pYes ρ QB := k
theorem p_fldt (k : a ρ fun d => ∃ x ks l y, d = .ins x ks l ∧ (ks.zip l).lookup f = some y ∧ Q y) : pFld a f ρ Q := k
theorem p_fld {P : Da → Prop} {X : Str} {KS : List Str} {L : List Da} (h : (KS.zip L).lookup f = some d) (k : P d) : ∃ x ks l y, Da.ins X KS L = .ins x ks l ∧ (ks.zip l).lookup f = some y ∧ P y := ⟨X, KS, L, d, rfl, h, k⟩
-- operators
theorem p_add (k : Q (.int (i + j))) : pAdd (.int i) (.int j) Q := k
theorem p_addS (h : s.length + s2.length ≤ 100000) (k : Q (.str (s ++ s2))) : pAdd (.str s) (.str s2) Q := ⟨h, k⟩
theorem p_addL (h : l.length + l2.length ≤ 100000) (k : Q (.lst (l ++ l2))) : pAdd (.lst l) (.lst l2) Q := ⟨h, k⟩
theorem p_sub (k : Q (.int (i - j))) : pSub (.int i) (.int j) Q := k
theorem p_mul (h : MulOk i j) (k : Q (.int (i * j))) : pMul (.int i) (.int j) Q := ⟨h, k⟩
theorem p_div (h : CDivW i j) (k : Q (.int (i / j))) : pDiv (.int i) (.int j) Q := ⟨h, k⟩
theorem p_mod (h : 0 < j) (k : Q (.int (i % j))) : pMod (.int i) (.int j) Q := ⟨h, k⟩
theorem p_pow (h : CPow i j) (k : Q (.int (i ^ j.toNat))) : pPow (.int i) (.int j) Q := ⟨h, k⟩
theorem p_neg (k : Q (.int (-i))) : pNeg (.int i) Q := k
theorem p_lt (k : Q (.bl (decide (i < j)))) : pLt (.int i) (.int j) Q := k
theorem p_ltS (k : Q (.bl (decide (s.cps.toList < s2.cps.toList)))) : pLt (.str s) (.str s2) Q := k
theorem p_le (k : Q (.bl (decide (i ≤ j)))) : pLe (.int i) (.int j) Q := k
theorem p_leS (k : Q (.bl (!decide (s2.cps.toList < s.cps.toList)))) : pLe (.str s) (.str s2) Q := k
theorem p_gt (k : Q (.bl (decide (j < i)))) : pGt (.int i) (.int j) Q := k
theorem p_gtS (k : Q (.bl (decide (s2.cps.toList < s.cps.toList)))) : pGt (.str s) (.str s2) Q := k
theorem p_ge (k : Q (.bl (decide (j ≤ i)))) : pGe (.int i) (.int j) Q := k
theorem p_geS (k : Q (.bl (!decide (s.cps.toList < s2.cps.toList)))) : pGe (.str s) (.str s2) Q := k
theorem p_eqf (h1 : flD x = true) (h2 : flD y = true) (k : Q (.bl (eqD x y))) : pEq x y Q := ⟨0, by decide, Cq.flat h1 h2, k⟩
theorem p_nef (h1 : flD x = true) (h2 : flD y = true) (k : Q (.bl (!eqD x y))) : pNe x y Q := ⟨0, by decide, Cq.flat h1 h2, k⟩
theorem eqD_II : eqD (.int i) (.int j) = decide (i = j) := by simp only [eqD, eq0]
theorem eqD_SS : eqD (.str s) (.str s2) = decide (s = s2) := by simp only [eqD, eq0]
theorem eqD_BB : eqD (.bl bb) (.bl b2) = decide (bb = b2) := by simp only [eqD, eq0]
theorem eqD_IS : eqD (.int i) (.str s) = false := by simp only [eqD, eq0]
theorem eqD_SI : eqD (.str s) (.int i) = false := by simp only [eqD, eq0]
theorem p_eq (k : Q (.bl (decide (i = j)))) : pEq (.int i) (.int j) Q := p_eqf rfl rfl (by rw [eqD_II]; exact k)
theorem p_eqS (k : Q (.bl (decide (s = s2)))) : pEq (.str s) (.str s2) Q := p_eqf rfl rfl (by rw [eqD_SS]; exact k)
theorem p_eqB (k : Q (.bl (decide (bb = b2)))) : pEq (.bl bb) (.bl b2) Q := p_eqf rfl rfl (by rw [eqD_BB]; exact k)
theorem p_ne (k : Q (.bl (!decide (i = j)))) : pNe (.int i) (.int j) Q := p_nef rfl rfl (by rw [eqD_II]; exact k)
theorem p_neS (k : Q (.bl (!decide (s = s2)))) : pNe (.str s) (.str s2) Q := p_nef rfl rfl (by rw [eqD_SS]; exact k)
theorem p_neB (k : Q (.bl (!decide (bb = b2)))) : pNe (.bl bb) (.bl b2) Q := p_nef rfl rfl (by rw [eqD_BB]; exact k)
theorem p_eqIS (k : Q (.bl false)) : pEq (.int i) (.str s) Q := p_eqf rfl rfl (by rw [eqD_IS]; exact k)
theorem p_eqSI (k : Q (.bl false)) : pEq (.str s) (.int i) Q := p_eqf rfl rfl (by rw [eqD_SI]; exact k)
theorem p_is (k : Q (.bl (isNon x))) : pIs x .non Q := by cases x <;> exact k
theorem p_isNot (k : Q (.bl (!isNon x))) : pIsNot x .non Q := by cases x <;> exact k
theorem p_isB (k : Q (.bl (decide (bb = b2)))) : pIs (.bl bb) (.bl b2) Q := k
theorem p_ixL (h : atI l i = some d) (k : Q d) : pIx (.lst l) (.int i) Q := ⟨d, h, k⟩
theorem p_ixT (h : atI l i = some d) (k : Q d) : pIx (.tup l) (.int i) Q := ⟨d, h, k⟩
theorem p_lenL (k : Q (.int l.length)) : pLen [.lst l] Q := k
theorem p_lenT (k : Q (.int l.length)) : pLen [.tup l] Q := k
theorem p_lenS (h : s.length ≤ 100000) (k : Q (.int s.length)) : pLen [.str s] Q := ⟨h, k⟩
theorem p_int (k : Q (.int i)) : pInt [.int i] Q := k
theorem p_intB (k : Q (.int (if bb then 1 else 0))) : pInt [.bl bb] Q := k
theorem p_max (k : Q (.int (if j > i then j else i))) : pMax [.int i, .int j] Q := k
theorem p_min (k : Q (.int (if j < i then j else i))) : pMin [.int i, .int j] Q := k
theorem p_abs (k : Q (.int (if i < 0 then -i else i))) : pAbs [.int i] Q := k
theorem p_listL (k : Q (.lst l)) : pList [.lst l] Q := k
theorem p_listT (k : Q (.lst l)) : pList [.tup l] Q := k
theorem p_tupleL (k : Q (.tup l)) : pTuple [.lst l] Q := k
theorem p_tupleT (k : Q (.tup l)) : pTuple [.tup l] Q := k
theorem p_strI (h : i.natAbs.log2 < 1920) (k : Q (.str (toString i))) : pStr [.int i] Q := ⟨h, k⟩
theorem p_strS (k : Q (.str s)) : pStr [.str s] Q := k
theorem p_isi {m : String} (h : okTy x = true) (hn : m = "int" ∨ m = "bool" ∨ m = "str" ∨ m = "tuple" ∨ m = "list") (k : Q (.bl (isTy m x))) : pIsi [x, .ty m] Q := ⟨h, hn, k⟩
theorem p_isC (k : a ρ fun d => isC1 s d Q) : pIsC s a ρ Q := k
theorem p_isCi {X : Str} {KS : List Str} {L : List Da} (k : Q (.bl (SUB X s))) : isC1 s (.ins X KS L) Q := k
-- calls
theorem p_cal (k : t ρ fun ds => ps ds Q fun _ => False) : pCal ps t ρ Q := k
theorem p_calS (k : t ρ fun ds => ps ds Q fun x => Wp x ρ) : pCalS Wp ps t ρ Q := k
theorem p_mt {m : Str} (k : a ρ fun d => ∃ ks l, d = .ins s ks l ∧ ks.contains m = false ∧ t ρ fun ds => ps (d :: ds) Q fun _ => False) : pMt s m ps a t ρ Q := k
theorem p_mtX {m : Str} (k : a ρ fun d => ∃ ks l, d = .ins s ks l ∧ ks.contains m = false ∧ t ρ fun ds => ps (d :: ds) Q fun x => Wp x ρ) : pMtX Wp s m ps a t ρ Q := k
theorem p_pr (k : a ρ fun d => ∃ ks l, d = .ins s ks l ∧ ps [d] Q fun _ => False) : pPr s ps a ρ Q := k
theorem p_insM {X : Str} {KS : List Str} {L : List Da} {m : Str} {P : Prop} (h : KS.contains m = false) (k : P) : ∃ ks l, Da.ins X KS L = .ins X ks l ∧ ks.contains m = false ∧ P := ⟨KS, L, rfl, h, k⟩
theorem p_insP {X : Str} {KS : List Str} {L : List Da} {P : Prop} (k : P) : ∃ ks l, Da.ins X KS L = .ins X ks l ∧ P := ⟨KS, L, rfl, k⟩
theorem p_mk {gs : List Str} {pi : PSi} (k : t ρ fun ds => pi ds (fun l => Q (.ins s gs l)) fun _ => False) : pMk s gs pi t ρ Q := k
theorem p_mkX {gs : List Str} {pi : PSi} (k : t ρ fun ds => pi ds (fun l => Q (.ins s gs l)) fun y => Wp y ρ) : pMkX Wp s gs pi t ρ Q := k
theorem p_mkK {gs : List Str} {pi : PSi} {n nk : Nat} {ms : List Cst} {sel : List (Bool × Nat)} (k : t ρ fun ds => u ρ fun dz => ds.length = n ∧ dz.length = nk ∧ pi (selD sel ms ds dz) (fun l => Q (.ins s gs l)) fun y => Wp y ρ) : pMkK Wp s gs n nk ms sel pi t u ρ Q := k
-- slices
theorem p_sl {lo hi : POp} (k : a ρ fun d => lo ρ fun l => hi ρ fun h => slD d l h Q) : pSl a lo hi ρ Q := k
theorem p_slL {o1 o2 : Option Int} (k : Q (.lst (cutD l o1 o2))) : slD (.lst l) o1 o2 Q := k
theorem p_slT {o1 o2 : Option Int} (k : Q (.tup (cutD l o1 o2))) : slD (.tup l) o1 o2 Q := k
theorem p_noPart {QO : Option Int → Prop} (k : QO none) : pNoPart ρ QO := k
theorem p_part {QO : Option Int → Prop} (k : a ρ fun d => ∃ i, d = .int i ∧ QO (some i)) : pPart a ρ QO := k
theorem p_parti {P : Int → Prop} (k : P i) : ∃ j, Da.int i = .int j ∧ P j := ⟨i, rfl, k⟩
-- statements
theorem p_next (k : D.nx ρ) : pNext D ρ := k
theorem p_seq (k : p { D with nx := q D } ρ) : pSeq p q D ρ := k
theorem p_cut (M : PEnv → Prop) (k : p { D with nx := M } ρ) (h : ∀ ρ', M ρ' → q D ρ') : pCut p q D ρ := ⟨M, k, h⟩
theorem p_cutI (k : p { D with nx := q D } ρ) : pCut p q D ρ := ⟨q D, k, fun _ h => h⟩
theorem p_asg (k : a ρ fun d => D.nx (ρ.set n (some (.d d)))) : pAsg a (pgName n) D ρ := k
theorem p_asgG (k : a ρ fun d => g d ρ D.nx) : pAsg a g D ρ := k
theorem p_drop (k : a ρ fun _ => D.nx ρ) : pDrop a D ρ := k
theorem p_ret (k : a ρ D.rt) : pRet a D ρ := k
theorem p_retN (k : D.rt .non) : pRetN D ρ := k
theorem p_ifS (k : c ρ fun b => if b = true then p D ρ else q D ρ) : pIfS c p q D ρ := k
theorem p_brk (k : D.bk ρ) : pBreak D ρ := k
theorem p_cont (k : D.ct ρ) : pCont D ρ := k
theorem p_rse (k : Wp s ρ) : pRaise Wp s D ρ := k
theorem p_rseA (k : a ρ fun _ => Wp s ρ) : pRaiseA Wp s a D ρ := k
theorem p_asgO (k : t ρ fun l => D.nx (ρ.set n (some (.own l)))) : pAsgO n t D ρ := k
theorem p_app (h : ρ[n]? = some (some (.own l))) (hl : l.length < 100000) (k : a ρ fun d => D.nx (ρ.set n (some (.own (l ++ [d]))))) : pApp n a D ρ := ⟨l, h, hl, k⟩
theorem p_setI (h : ρ[n]? = some (some (.own l))) (k : b ρ fun d => a ρ fun e => ∃ k j, e = .int k ∧ ixN l.length k = some j ∧ D.nx (ρ.set n (some (.own (l.set j d))))) : pSetI n a b D ρ := ⟨l, h, k⟩
theorem p_frz (h : ρ[n]? = some (some (.own l))) (k : p D (ρ.set n (some (.d (.lst l))))) : pFrz n p D ρ := ⟨l, h, k⟩
theorem p_bor (h : ρ[n]? = some (some (.own l))) (k : a (ρ.set n (some (.d (.lst l)))) fun d => flD d = true ∧ Q d) : pBor n a ρ Q := ⟨l, h, k⟩
theorem p_borT (h : ρ[n]? = some (some (.own l))) (k : c (ρ.set n (some (.d (.lst l)))) QB) : pBorT n c ρ QB := ⟨l, h, k⟩
theorem p_fl {P : Prop} (h : flD d = true) (k : P) : flD d = true ∧ P := ⟨h, k⟩
theorem p_setF {X : Str} {gs ks : List Str} (h : ρ[n]? = some (some (.obj X gs ks l))) (hc : gs.contains f = true) (hk : ks.length < 1000) (k : a ρ fun d => D.nx (ρ.set n (some (.obj X gs (putK f ks) (putL f d ks l))))) : pSetF n f a D ρ := ⟨X, gs, ks, l, h, hc, hk, k⟩
theorem p_gName {QE : PEnv → Prop} (k : QE (ρ.set n (some (.d d)))) : pgName n d ρ QE := k
theorem p_gTup {QE : PEnv → Prop} {tg : PTgs} (h : l.length = k) (z : tg l ρ QE) : pgTup k tg (.tup l) ρ QE := ⟨l, rfl, h, z⟩
theorem p_gNil {QE : PEnv → Prop} (k : QE ρ) : pgNil [] ρ QE := ⟨rfl, k⟩
theorem p_gCons {QE : PEnv → Prop} {tg : PTgs} (k : g d ρ fun ρ' => tg l ρ' QE) : pgCons g tg (d :: l) ρ QE := ⟨d, l, rfl, k⟩
theorem p_try {x : Str} {ys : List Str} {pb : WP → PSt} (k : pb (fun y ρ' => y ∈ ys ∧ if SUB y x = true then p D ρ' else Wp y ρ') D ρ) : pTry x ys pb p Wp D ρ := k
-- walks
theorem p_for {pi : PIt} (k : pi ρ fun l => pLoop l g p D ρ) : pFor pi g p D ρ := k
theorem p_isq (k : a ρ fun d => ∃ l, (d = .lst l ∨ d = .tup l) ∧ QA l) : piSq a ρ QA := k
theorem p_isqL {P : List Da → Prop} (k : P l) : ∃ m, (Da.lst l = .lst m ∨ Da.lst l = .tup m) ∧ P m := ⟨l, .inl rfl, k⟩
theorem p_isqT {P : List Da → Prop} (k : P l) : ∃ m, (Da.tup l = .lst m ∨ Da.tup l = .tup m) ∧ P m := ⟨l, .inr rfl, k⟩
theorem p_irng1 (k : t ρ fun ds => ∃ j : Int, ds = [.int j] ∧ -1000000 ≤ j ∧ j ≤ 1000000 ∧ QA (rngD 0 j.toNat)) : piRng1 t ρ QA := k
theorem p_irng2 (k : t ρ fun ds => ∃ i j : Int, ds = [.int i, .int j] ∧ (-1000000 ≤ i ∧ i ≤ 1000000 ∧ -1000000 ≤ j ∧ j ≤ 1000000) ∧ QA (rngD i (j - i).toNat)) : piRng2 t ρ QA := k
theorem p_rng1 {P : Int → Prop} (h : -1000000 ≤ i ∧ i ≤ 1000000) (k : P i) : ∃ j : Int, [Da.int i] = [.int j] ∧ -1000000 ≤ j ∧ j ≤ 1000000 ∧ P j := ⟨i, rfl, h.1, h.2, k⟩
theorem p_rng2 {P : Int → Int → Prop} (h : -1000000 ≤ i ∧ i ≤ 1000000 ∧ -1000000 ≤ j ∧ j ≤ 1000000) (k : P i j) : ∃ i' j' : Int, [Da.int i, Da.int j] = [.int i', .int j'] ∧ (-1000000 ≤ i' ∧ i' ≤ 1000000 ∧ -1000000 ≤ j' ∧ j' ≤ 1000000) ∧ P i' j' := ⟨i, j, rfl, h, k⟩
theorem p_izip (k : t ρ fun ds => ∃ a b, (ds = [.lst a, .lst b] ∨ ds = [.tup a, .tup b]) ∧ QA (zipD a b)) : piZip t ρ QA := k
theorem p_zipL {P : List Da → List Da → Prop} (k : P l l2) : ∃ a b, ([Da.lst l, Da.lst l2] = [.lst a, .lst b] ∨ [Da.lst l, Da.lst l2] = [.tup a, .tup b]) ∧ P a b := ⟨l, l2, .inl rfl, k⟩
theorem p_zipT {P : List Da → List Da → Prop} (k : P l l2) : ∃ a b, ([Da.tup l, Da.tup l2] = [.lst a, .lst b] ∨ [Da.tup l, Da.tup l2] = [.tup a, .tup b]) ∧ P a b := ⟨l, l2, .inr rfl, k⟩
theorem p_ienum (k : t ρ fun ds => ∃ l, (ds = [.lst l] ∨ ds = [.tup l]) ∧ QA (enumD l)) : piEnum t ρ QA := k
theorem p_enumL {P : List Da → Prop} (k : P l) : ∃ m, ([Da.lst l] = [.lst m] ∨ [Da.lst l] = [.tup m]) ∧ P m := ⟨l, .inl rfl, k⟩
theorem p_enumT {P : List Da → Prop} (k : P l) : ∃ m, ([Da.tup l] = [.lst m] ∨ [Da.tup l] = [.tup m]) ∧ P m := ⟨l, .inr rfl, k⟩
theorem p_loop (I : Nat → PEnv → Prop) (h0 : I 0 ρ) (hs : ∀ i x ρ', l[i]? = some x → I i ρ' → g x ρ' fun ρ2 => p { D with nx := I (i + 1), ct := I (i + 1), bk := D.nx } ρ2) (hd : ∀ ρ', I l.length ρ' → D.nx ρ') : pLoop l g p D ρ := ⟨I, h0, hs, hd⟩
theorem p_loopR {lo : Int} {m : Nat} (I : Nat → PEnv → Prop) (h0 : I 0 ρ) (hs : ∀ (i : Nat) ρ', i < m → I i ρ' → g (.int (lo + i)) ρ' fun ρ2 => p { D with nx := I (i + 1), ct := I (i + 1), bk := D.nx } ρ2) (hd : ∀ ρ', I m ρ' → D.nx ρ') : pLoop (rngD lo m) g p D ρ :=
  ⟨I, h0, fun i x ρ' hx ii => by obtain ⟨h, rfl⟩ := rngD_get hx; exact hs i ρ' h ii, fun ρ' ii => by rw [rngD_len] at ii; exact hd ρ' ii⟩
theorem p_lc {pi : PIt} {us : List Nat} (k : pi ρ fun l => pComp l g c e us ρ fun r => Q (.lst r)) : pLc pi g c e us ρ Q := k
theorem p_lcF {pi : PIt} {us : List Nat} (k : pi ρ fun l => pComp l g c e us ρ QA) : pLcF pi g c e us ρ QA := k
theorem p_map {us : List Nat} (hn : l.length ≤ 90000) (F : Da → Da) (hs : ∀ (i : Nat) (x : Da) (R : Da → Prop), l[i]? = some x → R (F x) → g x (wipeP ρ us) fun ρ2 => e ρ2 R) (hd : QA (l.map F)) : pComp l g pYes e us ρ QA := by
  refine ⟨hn, fun i acc => acc = (l.take i).map F, rfl, fun i x acc hx ha => ?_, fun acc ha => by rw [ha, List.take_length]; exact hd⟩
  subst ha
  have := hs i x (fun y => (l.take i).map F ++ [y] = (l.take (i + 1)).map F) hx (by
    rw [List.take_add_one, hx, List.map_append]; rfl)
  refine cast (congrArg (g x (wipeP ρ us)) ?_) this
  funext ρ2
  dsimp only [pYes]
  rw [if_pos rfl]
theorem p_newL (k : t ρ fun ds => ds.length ≤ 100000 ∧ QA ds) : pNewL t ρ QA := k
theorem p_listF (k : t ρ fun ds => listF1 ds QA) : pListF t ρ QA := k
theorem p_listFL (k : QA l) : listF1 [.lst l] QA := k
theorem p_listFT (k : QA l) : listF1 [.tup l] QA := k
theorem p_addF (k : a ρ fun x => b ρ fun y => addF1 x y QA) : pAddF a b ρ QA := k
theorem p_slF {lo hi : POp} (k : a ρ fun d => lo ρ fun l => hi ρ fun h => slF1 d l h QA) : pSlF a lo hi ρ QA := k
theorem p_slFL {o1 o2 : Option Int} (k : QA (cutD l o1 o2)) : slF1 (.lst l) o1 o2 QA := k
end

local macro_rules | `(tactic| walk_at "pf") => `(tactic| (simp only [List.length_cons, List.length_nil]; with_unfolding_all decide))
local macro_rules | `(tactic| walk_at "po") => `(tactic| (with_reducible first
  | refine p_add ?_ | refine p_sub ?_ | refine p_lt ?_ | refine p_le ?_ | refine p_gt ?_ | refine p_ge ?_ | refine p_eq ?_ | refine p_ne ?_ | refine p_eqS ?_ | refine p_neS ?_ | refine p_eqB ?_ | refine p_neB ?_ | refine p_neg ?_ | refine p_int ?_ | refine p_intB ?_ | refine p_max ?_ | refine p_min ?_ | refine p_abs ?_
  | refine p_is ?_ | refine p_isNot ?_ | refine p_isB ?_ | refine p_eqIS ?_ | refine p_eqSI ?_ | refine p_ltS ?_ | refine p_leS ?_ | refine p_gtS ?_ | refine p_geS ?_ | refine p_lenL ?_ | refine p_lenT ?_ | refine p_listL ?_ | refine p_listT ?_ | refine p_tupleL ?_ | refine p_tupleT ?_ | refine p_strS ?_
  | refine p_slL ?_ | refine p_slT ?_ | refine p_parti ?_ | refine p_isqL ?_ | refine p_isqT ?_ | refine p_zipL ?_ | refine p_zipT ?_ | refine p_enumL ?_ | refine p_enumT ?_ | refine p_bl ?_ | refine p_trb ?_ | refine p_tri ?_ | refine p_trl ?_ | refine p_trt ?_ | refine p_trn ?_ | refine p_isCi ?_ | refine p_insP ?_ | refine p_listFL ?_ | refine p_listFT ?_ | refine p_slFL ?_))
local macro_rules | `(tactic| walk_at "pe") => `(tactic| (with_reducible first
  | ((show pVar _ _ _); refine p_var (by with_unfolding_all rfl) ?_) | refine p_c ?_ | refine p_op ?_ | refine p_cons ?_ | refine p_nil ?_ | refine p_fldt ?_ | refine p_cal ?_ | refine p_cb ?_ | refine p_test ?_ | refine p_un ?_ | refine p_tru ?_ | refine p_and ?_ | refine p_or ?_ | refine p_not ?_ | refine p_andV ?_ | refine p_orV ?_ | refine p_notV ?_ | refine p_if ?_ | refine p_lst ?_ | refine p_tup ?_ | refine p_chain ?_ | refine p_calS ?_ | refine p_mt ?_ | refine p_mtX ?_ | refine p_pr ?_ | refine p_mk ?_ | refine p_mkX ?_ | refine p_mkK ?_ | refine p_sl ?_ | refine p_part ?_ | refine p_noPart ?_ | refine p_isC ?_ | refine p_yes ?_ | refine p_lc ?_ | refine p_lcF ?_ | refine p_isq ?_ | refine p_irng1 ?_ | refine p_irng2 ?_ | refine p_izip ?_ | refine p_ienum ?_ | refine p_newL ?_ | refine p_listF ?_ | refine p_addF ?_ | refine p_slF ?_))
local macro_rules | `(tactic| walk_at "ps") => `(tactic| (with_reducible first
  | refine p_seq ?_ | refine p_asg ?_ | refine p_ifS ?_ | refine p_ret ?_ | refine p_drop ?_ | refine p_next ?_ | refine p_brk ?_ | refine p_cont ?_ | refine p_retN ?_ | refine z_iteT ?_ | refine z_iteF ?_ | refine p_for ?_ | refine p_asgO ?_ | refine p_asgG ?_ | refine p_rse ?_ | refine p_rseA ?_ | refine p_gName ?_ | refine p_gNil ?_ | refine p_gCons ?_ | refine p_try ?_
  | ((show pgTup _ _ _ _ _); refine p_gTup (by with_unfolding_all rfl) ?_)
  | ((show pApp _ _ _ _); refine p_app (by with_unfolding_all rfl) ?_ ?_; rotate_left)
  | ((show pSetI _ _ _ _ _); refine p_setI (by with_unfolding_all rfl) ?_)
  | ((show pFrz _ _ _ _); refine p_frz (by with_unfolding_all rfl) ?_)
  | ((show pBor _ _ _ _); refine p_bor (by with_unfolding_all rfl) ?_)
  | ((show pBorT _ _ _ _); refine p_borT (by with_unfolding_all rfl) ?_)
  | ((show pSetF _ _ _ _ _); refine p_setF (by with_unfolding_all rfl) (by with_unfolding_all rfl) (by with_unfolding_all exact of_decide_eq_true rfl) ?_)))
local macro_rules | `(tactic| walk_at "pp") => `(tactic| with_reducible first
  | ((show pMul _ _ _); refine p_mul (by walk_at "mulok") ?_)
  | ((show pDiv _ _ _); refine p_div (by exact div1 (by omega)) ?_)
  | ((show pMod _ _ _); refine p_mod (by omega) ?_)
  | ((show pPow _ _ _); refine p_pow (by with_unfolding_all exact ⟨by decide, by decide, by decide⟩) ?_; (simp only [Int.reduceToNat, Int.reducePow]))
  | ((show pIx (Da.lst _) _ _); refine p_ixL (by first | with_unfolding_all rfl | assumption) ?_)
  | ((show pIx (Da.tup _) _ _); refine p_ixT (by first | with_unfolding_all rfl | assumption) ?_)
  | (refine p_fld (by with_unfolding_all rfl) ?_)
  | (refine p_insM (by with_unfolding_all rfl) ?_)
  | (refine p_nl (by walk_at "pf") ?_)
  | (refine p_isi (by with_unfolding_all rfl) (by with_unfolding_all decide) ?_)
  | (refine p_fl (by with_unfolding_all rfl) ?_))
local macro_rules | `(tactic| walk_at "p1") => `(tactic| first | walk_at "pe" | walk_at "po" | walk_at "ps" | walk_at "pp" | (dsimp only [List.set]))
local macro_rules | `(tactic| walk_at "pz") => `(tactic| repeat (walk_at "p1"))
local macro_rules | `(tactic| walk_at "pd") => `(tactic| ((with_reducible show ite _ _ _); first | refine z_iteT' (by decide +kernel) ?_ | refine z_iteF' (by decide +kernel) ?_))
local macro_rules | `(tactic| walk_at "px") => `(tactic| repeat (first | walk_at "p1" | walk_at "pd"))
local macro_rules | `(tactic| walk_at "pr") => `(tactic| ((with_reducible show ite _ _ _); first | refine z_iteT' (by with_unfolding_all rfl) ?_ | refine z_iteF' (by with_unfolding_all rfl) ?_))
local macro_rules | `(tactic| walk_at "py") => `(tactic| repeat (first | walk_at "p1" | walk_at "pr"))

def seqD (v : Da) (l : List Da) : Prop := v = .lst l ∨ v = .tup l
abbrev prD (l : List (Da × Da)) : List Da := l.map fun z => .tup [z.1, z.2]
theorem prD_len {l : List (Da × Da)} : (prD l).length = l.length := List.length_map ..
theorem p_isqS {v : Da} {l : List Da} {P : List Da → Prop} (h : seqD v l) (k : P l) : ∃ m, (v = .lst m ∨ v = .tup m) ∧ P m := ⟨l, h, k⟩
theorem p_tupleS {v : Da} {l : List Da} {Q : Da → Prop} (h : seqD v l) (k : Q (.tup l)) : pTuple [v] Q := by rcases h with rfl | rfl <;> exact k
theorem p_lenSq {v : Da} {l : List Da} {Q : Da → Prop} (h : seqD v l) (k : Q (.int l.length)) : pLen [v] Q := by rcases h with rfl | rfl <;> exact k
def EqAsk (X : Str) (KS : List Str) (ok : List Da → List Da → Prop) (l : List Da) (e : Da) : Prop := l.length = KS.length ∧ ((∃ m, e = .ins X KS m ∧ m.length = KS.length ∧ ok l m) ∨ (∃ y ks m, e = .ins y ks m ∧ SUB y X = false) ∨ okTy e = true)
def psEqOf (X : Str) (KS : List Str) (ok : List Da → List Da → Prop) : PSp := fun ds Q _ => ∃ l e, ds = [.ins X KS l, e] ∧ EqAsk X KS ok l e ∧ Q (.bl (eqD (.ins X KS l) e))
theorem CqX.flat {tab : ETab} {n : Nat} {x y : Da} (h1 : flD x = true) (h2 : flD y = true) : CqX tab n x y := by
  cases n with
  | zero => exact ⟨h1, h2⟩
  | succ n => exact .inl ⟨h1, h2⟩
theorem CqX.tup {tab : ETab} {n : Nat} {a b : List Da} (h : ∀ (i : Nat) (u v : Da), a[i]? = some u → b[i]? = some v → CqX tab n u v) : CqX tab (n + 1) (.tup a) (.tup b) := .inr (.inl ⟨a, b, rfl, rfl, h⟩)
theorem CqX.lst {tab : ETab} {n : Nat} {a b : List Da} (h : ∀ (i : Nat) (u v : Da), a[i]? = some u → b[i]? = some v → CqX tab n u v) : CqX tab (n + 1) (.lst a) (.lst b) := .inr (.inr (.inl ⟨a, b, rfl, rfl, h⟩))
theorem CqX.ins {tab : ETab} {n : Nat} {X : Str} {KS : List Str} {ok : List Da → List Da → Prop} {l : List Da} {e : Da} (hm : (X, psEqOf X KS ok) ∈ tab) (h : EqAsk X KS ok l e) (hr : eqD (.ins X KS l) (.ins X KS l) = true) (ht : ∀ y ks m, e = .ins y ks m → y = X ∨ ∃ ps, (y, ps) ∈ tab) : CqX tab (n + 1) (.ins X KS l) e := by
  refine .inr (.inr (.inr ⟨X, KS, l, rfl, ⟨_, hm, l, e, rfl, h, rfl⟩, hr, ?_⟩))
  rcases h.2 with ⟨m, rfl, _, _⟩ | ⟨y, ks, m, rfl, hs⟩ | ho
  · exact .inl ⟨X, KS, m, rfl, .inl rfl⟩
  · exact .inl ⟨y, ks, m, rfl, (ht y ks m rfl).imp id fun z => ⟨z, hs⟩⟩
  · exact .inr ho

theorem p_filt {α : Type} {l : List α} {f g : α → Da} {pg : PTg} {c : PTe} {e : PEx} {us : List Nat} {ρ : PEnv} {QA : List Da → Prop} (P : α → Bool) (hn : l.length ≤ 90000) (hs : ∀ (i : Nat) (a : α) (k1 : Da → Prop) (k2 : Prop), l[i]? = some a → (P a = true → k1 (g a)) → (P a = false → k2) → pg (f a) (wipeP ρ us) fun ρ2 => c ρ2 fun b => if b = true then e ρ2 k1 else k2) (hd : QA ((l.filter P).map g)) : pComp (l.map f) pg c e us ρ QA := by
  refine ⟨by rw [List.length_map]; exact hn, fun i acc => acc = ((l.take i).filter P).map g, rfl, fun i x acc hx ha => ?_, fun acc ha => by rw [ha, List.length_map, List.take_length]; exact hd⟩
  rw [List.getElem?_map] at hx
  cases e' : l[i]? with
  | none => rw [e'] at hx; cases hx
  | some a =>
    rw [e'] at hx
    cases hx
    subst ha
    have tk : l.take (i + 1) = l.take i ++ [a] := by rw [List.take_add_one, e']; rfl
    refine hs i a _ _ e' (fun h => ?_) (fun h => ?_)
    · show _ = _
      rw [tk, List.filter_append, List.map_append, List.filter_cons_of_pos h]; rfl
    · show _ = _
      rw [tk, List.filter_append, List.map_append, List.filter_cons_of_neg (by rw [h]; exact Bool.false_ne_true)]; simp
theorem p_compS {α : Type} {l : List Da} {g : PTg} {e : PEx} {us : List Nat} {ρ : PEnv} {QA : List Da → Prop} (f : α → Da) (P : α → Prop) (hn : l.length ≤ 90000) (hs : ∀ (i : Nat) (x : Da) (k : Da → Prop), l[i]? = some x → (∀ a, P a → k (f a)) → g x (wipeP ρ us) fun ρ2 => e ρ2 k) (hd : ∀ as : List α, as.length = l.length → (∀ a ∈ as, P a) → QA (as.map f)) : pComp l g pYes e us ρ QA := by
  refine ⟨hn, fun i acc => ∃ as : List α, acc = as.map f ∧ as.length = i ∧ ∀ a ∈ as, P a, ⟨[], rfl, rfl, fun a h => by cases h⟩, fun i x acc hx ⟨as, ha, hl, hp⟩ => ?_, fun acc ⟨as, ha, hl, hp⟩ => by subst ha; exact hd as hl hp⟩
  have := hs i x (fun y => ∃ bs : List α, acc ++ [y] = bs.map f ∧ bs.length = i + 1 ∧ ∀ a ∈ bs, P a) hx (fun a h => ⟨as ++ [a], by rw [ha]; simp, by simp [hl], fun b hb => by
    rcases List.mem_append.mp hb with hb | hb
    · exact hp b hb
    · obtain rfl := List.mem_singleton.mp hb; exact h⟩)
  refine cast (congrArg (g x (wipeP ρ us)) ?_) this
  funext ρ2
  dsimp only [pYes]
  rw [if_pos rfl]

theorem p_istr {p : PEx} {ρ : PEnv} {Q : List Da → Prop} (k : p ρ fun d => ∃ x, d = .str x ∧ Q (strD x)) : piStr p ρ Q := k
theorem p_kst {P : Str → Prop} {x : Str} (k : P x) : ∃ z, Da.str x = .str z ∧ P z := ⟨x, rfl, k⟩
theorem p_ord {c : Nat} {Q : Da → Prop} (k : Q (.int (c : Nat))) : pOrd [.str ⟨#[c]⟩] Q := ⟨rfl, k⟩
theorem p_cstT {xs : List V} {ρ : PEnv} {Q : Da → Prop} (k : Q (.tup (xs.map vD))) : pCstT xs ρ Q := k
section
variable {X : Cx} {c : CEnv} {k : Nat} {tab : ETab}
end
section
variable {N : Cn}
end
def pKout (l : List (Str × DV)) (a : PEx) : PEx := fun ρ Q => a ρ fun x => ∃ z, x = .str z ∧ Q (.bl (!(l.lookup z).isSome))
def pKin (l : List (Str × DV)) (a : PEx) : PEx := fun ρ Q => a ρ fun x => ∃ z, x = .str z ∧ Q (.bl (l.lookup z).isSome)
theorem sim_kout {N : Cn} {l : List (Str × DV)} {a : TE} {p : PEx} (h : SimE N a p) : SimE N (tKout l a) (pKout l p) := by
  intro w H0 B aw ow H σ ρ Q Q' r q k
  refine h w H0 B aw ow H σ ρ _ _ r q fun x dx H1 r1 s1 h1 ⟨z, e, q1⟩ => ?_
  subst e
  cases h1
  exact ⟨z, rfl, k _ _ H1 r1 s1 (.bl _) q1⟩
theorem p_kout {l : List (Str × DV)} {a : PEx} {ρ : PEnv} {Q : Da → Prop} (k : a ρ fun x => ∃ z, x = .str z ∧ Q (.bl (!(l.lookup z).isSome))) : pKout l a ρ Q := k
theorem p_kin {l : List (Str × DV)} {a : PEx} {ρ : PEnv} {Q : Da → Prop} (k : a ρ fun x => ∃ z, x = .str z ∧ Q (.bl (l.lookup z).isSome)) : pKin l a ρ Q := k

def SqK (K : PySem.W.Frag) (k : Bool) (H : Hp) (a : Addr) (xs : List V) : Prop := if k then SqT K H a xs else SqL K H a xs
def itK (k : Bool) (h : Heap) (i a : Addr) (n : Nat) : Prop := if k then h.IsTupleIter i a n else h.IsListIter i a n
def hasK (k : Bool) (h : Heap) (a : Addr) (items : Array Value) : Prop := if k then h.IsTuple a items else h.IsList a items
def objK (k : Bool) (a : Addr) : Obj := if k then { cls := .type "tuple_iterator", data := .fields #[.ref a, .int 0 0] } else { cls := .type "list_iterator", data := .fields #[.ref a, .int 0 0] }
theorem begins_K (k : Bool) (a : Addr) (items : Array Value) : Begins (.ref a) (objK k a) fun h => hasK k h a items := by
  cases k
  · exact begins_list a items
  · exact begins_tuple a items
theorem draws_K {prog : Program} {w : World} {A : Around} (hh : A.handled = none) (k : Bool) (it l : Addr) (hne : l ≠ it) (items : Array Value) : Draws prog w A it [it, l] items.size (fun i v => items[i]? = some v) (fun i h => itK k h it l i ∧ hasK k h l items) := by
  cases k
  · exact Draws.list hh it l hne items
  · exact Draws.tuple hh it l hne items
theorem has_of {X : Cx} {pins : List (Addr × Obj)} {σ : L2.St} {H : Hp} {s : Shared} (I : Inv X pins σ H s) (k : Bool) {a : Addr} {xs : List V} (e : SqK X.K k H a xs) : ∃ its, Vals xs its ∧ hasK k s.heap a its.toArray ∧ a < s.heap.objs.size := by
  cases k
  · obtain ⟨its, rv, p, _⟩ := I.list e
    exact ⟨its, rv, p.isList, p.lt⟩
  · obtain ⟨its, rv, p, _⟩ := I.tuple e
    have p' : s.heap.IsTuple a its.toArray := p
    obtain ⟨o, ho, _⟩ := id p'
    exact ⟨its, rv, p', Heap.lt_size ho⟩
theorem inj_K {X : Cx} {pins : List (Addr × Obj)} {σ : L2.St} {H : Hp} {s : Shared} (I : Inv X pins σ H s) (k : Bool) {a : Addr} {xs ys : List V} (e : SqK X.K k H a xs) (e2 : SqK X.K k H a ys) : xs = ys := by
  cases k
  · exact I.list_inj e e2
  · exact I.tuple_inj e e2
theorem itK.obj {k : Bool} {h : Heap} {i a : Addr} {n : Nat} (e : itK k h i a n) : ∃ o, h.get? i = some o ∧ ∀ v, o.data ≠ .cell v := by
  cases k
  all_goals
    obtain ⟨o, ho, _, hd⟩ := e
    exact ⟨o, ho, fun v q => by rw [hd] at q; cases q⟩
theorem itK.at {k : Bool} {h h' : Heap} {i a : Addr} {n : Nat} (e : itK k h i a n) (q : ∀ o, h.get? i = some o → h'.get? i = some o) : itK k h' i a n := by
  cases k
  all_goals
    obtain ⟨o, ho, hc, hd⟩ := e
    exact ⟨o, q o ho, hc, hd⟩
theorem itK.of {k : Bool} {h : Heap} {i a : Addr} (e : h.get? i = some (objK k a)) : itK k h i a 0 := by
  cases k
  · exact ⟨_, e, rfl, rfl⟩
  · exact ⟨_, e, rfl, rfl⟩
def Itz2 (K : PySem.W.Frag) (k1 k2 : Bool) (a b : Addr) : It :=
  ⟨fun i H => ∃ (xs ys : List V) (x y : V), SqK K k1 H a xs ∧ SqK K k2 H b ys ∧ xs[i]? = some x ∧ ys[i]? = some y,
    fun i H v H' => ∃ T x y, v = .ref T ∧ H T = none ∧ H' = upd H T (.tup [x, y]) ∧ (∀ xs, SqK K k1 H a xs → xs[i]? = some x) ∧ ∀ ys, SqK K k2 H b ys → ys[i]? = some y,
    fun i H => ∃ xs ys : List V, SqK K k1 H a xs ∧ SqK K k2 H b ys ∧ i = min xs.length ys.length⟩
theorem sub5 {α : Type} {a b c d e x : α} (h : x ∈ [a, c, d, e]) : x ∈ [a, b, c, d, e] := by
  simp only [List.mem_cons, List.not_mem_nil, or_false] at h ⊢
  rcases h with z | z | z | z <;> simp [z]
theorem mem_sz {h : Heap} {b : Addr} {o : Obj} (e : h.get? b = some o) : b < h.objs.size := Heap.lt_size e
theorem turn_z2 {P : Program} {w : World} {K : PySem.W.Frag} {elts : List Expr} {kk : Nat} {tpos : Pos} {k1 k2 : Bool} {a b : Addr} {N : Nat} (ha : a < N) (hb : b < N) :
    Turn P w K (.Tuple elts kk tpos) (Itz2 K k1 k2 a b) [N + 4, N + 2, N + 3, N, N + 1] (N + 4) (fun i h => IsZip h (N + 4) (N + 2) (N + 3) .none ∧ IsTupOf2 h (N + 2) (.ref N) (.ref (N + 1)) ∧ (∃ x y, IsTupOf2 h (N + 3) x y) ∧ itK k1 h N a i ∧ itK k2 h (N + 1) b i) where
  mem := by simp
  obj := fun i h st c hc => by
    obtain ⟨hz, hTI, ⟨x, y, hTO⟩, h1, h2⟩ := st
    have e' : c = N + 4 ∨ c = N + 2 ∨ c = N + 3 ∨ c = N ∨ c = N + 1 := by simpa using hc
    rcases e' with q | q | q | q | q
    · rw [q]; exact ⟨_, hz, fun v q => nomatch q⟩
    · rw [q]; exact ⟨_, hTI, fun v q => nomatch q⟩
    · rw [q]; exact ⟨_, hTO, fun v q => nomatch q⟩
    · rw [q]; exact h1.obj
    · rw [q]; exact h2.obj
  keep := fun i h h' st k => by
    obtain ⟨hz, hTI, ⟨x, y, hTO⟩, h1, h2⟩ := st
    exact ⟨k _ (by simp) _ hz, k _ (by simp) _ hTI, ⟨x, y, k _ (by simp) _ hTO⟩, h1.at fun o q => k _ (by simp) o q, h2.at fun o q => k _ (by simp) o q⟩
  item := by
    intro X hP hw hK hc i pins s σ H E I hf st hg
    subst hP hw hK
    obtain ⟨hz, hTI, hTO, h1, h2⟩ := st
    obtain ⟨xs, ys, x, y, hqx, hqy, hx, hy⟩ := hg
    obtain ⟨its, rv, p, _⟩ := has_of I k1 hqx
    obtain ⟨its2, rv2, p2, _⟩ := has_of I k2 hqy
    obtain ⟨u, hu, ru⟩ := rv.get hx
    obtain ⟨u2, hu2, ru2⟩ := rv2.get hy
    have hh : X.A.in1.handled = none := I.ok.hd hc
    have G := GoesN.zip2 (prog := X.prog) (w := X.w) (A := X.A) (elts := elts) (x1 := kk) (pos := tpos) (zip_sep2 (N := N) (fp1 := [a]) (fp2 := [b]) (by simpa using ha) (by simpa using hb)) (draws_K hh k1 N a (Nat.ne_of_lt ha) its.toArray) (draws_K hh k2 (N + 1) b (Nat.ne_of_lt (Nat.lt_succ_of_lt hb)) its2.toArray)
    have l1 : i < its.length := (List.getElem?_eq_some_iff.mp hu).1
    have l2 : i < its2.length := (List.getElem?_eq_some_iff.mp hu2).1
    refine G.goes i s _ E (by simp; omega) ⟨hz, hTI, hTO, ⟨h1, p⟩, ⟨h2, p2⟩⟩ fun v h' tk hY st' hk htk => ?_
    obtain ⟨T, x1, y1, rfl, hn, ex, ey, hT⟩ := hY
    obtain ⟨hz', hTI', hTO', ⟨h1', _⟩, ⟨h2', _⟩⟩ := st'
    have ex : x1 = u := by have : its.toArray[i]? = some x1 := ex; rw [List.getElem?_toArray, hu] at this; exact (Option.some.inj this).symm
    have ey : y1 = u2 := by have : its2.toArray[i]? = some y1 := ey; rw [List.getElem?_toArray, hu2] at this; exact (Option.some.inj this).symm
    subst ex ey
    obtain ⟨oT, hoT, hcT, nT, hdT⟩ := hT
    have new : ObjOk X.prog X.w (upd H T (.tup [x, y])) h' T (.tup [x, y]) := ⟨by show 2 ≤ sizeLine; decide, [x1, y1], .cons ru (.cons ru2 .nil), ⟨oT, hoT, hcT, nT, hdT⟩⟩
    have I1 : Inv X pins σ (upd H T (.tup [x, y])) { s with heap := h', toks := tk } :=
      I.turnedNew (t' := tk) (ch := [N + 4, N + 2, N + 3, N, N + 1]) (fun c o hb q => hk c o (fun q' => hb (sub5 q')) q) hf hn new
    refine ⟨.ref T, _, I1, rfl, ⟨T, x, y, rfl, I.hok.fresh hn, rfl, fun l hl => by rw [inj_K I k1 hl hqx]; exact hx, fun l hl => by rw [inj_K I k2 hl hqy]; exact hy⟩, ⟨hz', hTI', hTO', h1', h2'⟩, fun c hcm => ?_⟩
    have hlt : c < s.heap.objs.size := by
      have e' : c = N + 4 ∨ c = N + 2 ∨ c = N + 3 ∨ c = N ∨ c = N + 1 := by simpa using hcm
      obtain ⟨_, _, hTO⟩ := hTO
      have := mem_sz hz
      have := mem_sz hTI
      have := mem_sz hTO
      obtain ⟨_, q1, _⟩ := h1.obj
      obtain ⟨_, q2, _⟩ := h2.obj
      have := mem_sz q1
      have := mem_sz q2
      rcases e' with q | q | q | q | q <;> rw [q] <;> assumption
    rw [upd_ne (Nat.ne_of_lt (Nat.lt_of_lt_of_le hlt hn))]
    exact (hf c hcm).1
  done := by
    intro X hP hw hK hc i pins s σ H E I hf st hg
    subst hP hw hK
    obtain ⟨hz, hTI, hTO, h1, h2⟩ := st
    obtain ⟨xs, ys, hqx, hqy, hend⟩ := hg
    obtain ⟨its, rv, p, _⟩ := has_of I k1 hqx
    obtain ⟨its2, rv2, p2, _⟩ := has_of I k2 hqy
    have hh : X.A.in1.handled = none := I.ok.hd hc
    have G := GoesN.zip2 (prog := X.prog) (w := X.w) (A := X.A) (elts := elts) (x1 := kk) (pos := tpos) (zip_sep2 (N := N) (fp1 := [a]) (fp2 := [b]) (by simpa using ha) (by simpa using hb)) (draws_K hh k1 N a (Nat.ne_of_lt ha) its.toArray) (draws_K hh k2 (N + 1) b (Nat.ne_of_lt (Nat.lt_succ_of_lt hb)) its2.toArray)
    have e : i = min its.toArray.size its2.toArray.size := by rw [hend, rv.length, rv2.length]; simp
    rw [e] at h1 h2
    exact G.stops s _ E ⟨hz, hTI, hTO, ⟨h1, p⟩, ⟨h2, p2⟩⟩ fun h' tk hk htk => I.turnedL (t' := tk) (ch := [N + 4, N + 2, N + 3, N, N + 1]) (fun c o hb q => hk c o (fun q' => hb (sub5 q')) q) hf
  self := fun A i s Q E st h => wpAny_pyIter_zip st.1 h
def iZip2 (K : PySem.W.Frag) (ta : TA) : TI := fun σ H R => ta σ H fun vs H1 => ∃ a b k1 k2 xs ys, vs = [.ref a, .ref b] ∧ SqK K k1 H1 a xs ∧ SqK K k2 H1 b ys ∧ R (Itz2 K k1 k2 a b) H1
section
variable {X : Cx} {e e2 e3 : Expr} {ta : TA} {p pos tpos : Pos} {elts : List Expr} {kk : Nat}
theorem pi_zip2 (hg : Gl X "zip") (hm : X.mg "zip" = none) (ha : PA X [e, e2] ta)
    (hs : starEach [e, e2] X.env = (false, eval e X.env) :: starEach [e2] X.env := by rfl) (hpl : (backTo pos (starEach [e2] X.env)).any (·.1) = false := by rfl) :
    PI X (.Tuple elts kk tpos) (.Call (.Name "zip" p) [e, e2] [] pos) (iZip2 X.K ta) := by
  refine ⟨fun pins s σ H R I h => ?_⟩
  refine PyProof.Rows.Call_ (ld_blt I hg hm PyProof.Rows.boot_zip (PyProof.Rows.callWith_type1 (thn (ha.run pos pins s σ H _ I h) fun us s1 ⟨vs, H1, I1, r1, q1⟩ => ?_) hs hpl))
  obtain ⟨a, b, k1, k2, xs, ys, ex, hqx, hqy, q⟩ := q1
  subst ex
  cases r1 with
  | cons r rr =>
    cases rr with
    | cons r' rr =>
      cases rr
      cases r
      cases r'
      obtain ⟨its, rv, p1, la⟩ := has_of I1 k1 hqx
      obtain ⟨its2, rv2, p2, lb⟩ := has_of I1 k2 hqy
      refine zip_begins2 (begins_K k1 a its.toArray) (begins_K k2 b its2.toArray) p1 p2 fun h' hz hTI hTO h1 h2 hsz hk => wpAny_pyIter_zip hz ?_
      have I2 : Inv X pins σ H1 { s1 with heap := h' } := I1.kept (t' := s1.toks) hk
      refine ⟨s1.heap.objs.size + 4, [s1.heap.objs.size + 4, s1.heap.objs.size + 2, s1.heap.objs.size + 3, s1.heap.objs.size, s1.heap.objs.size + 1], _, _, H1, rfl, I2, turn_z2 la lb, ⟨hz, hTI, ⟨_, _, hTO⟩, .of h1, .of h2⟩, fun c hcm => ?_, q⟩
      have hle : s1.heap.objs.size ≤ c := by
        have e' : c = s1.heap.objs.size + 4 ∨ c = s1.heap.objs.size + 2 ∨ c = s1.heap.objs.size + 3 ∨ c = s1.heap.objs.size ∨ c = s1.heap.objs.size + 1 := by simpa using hcm
        rcases e' with z | z | z | z | z <;> rw [z] <;> first | exact Nat.le_refl _ | exact Nat.le_add_right _ _
      exact I1.fpOk hle (I1.hok.fresh hle)
end

abbrev iD (xs : List Int) : List Da := xs.map Da.int
theorem takeS {α : Type} {l : List α} {i : Nat} {a : α} (h : l[i]? = some a) : l.take (i + 1) = l.take i ++ [a] := by rw [List.take_add_one, h]; rfl
theorem mapD_get {α : Type} {l : List α} {f : α → Da} {i : Nat} {x : Da} (h : (l.map f)[i]? = some x) : ∃ a, l[i]? = some a ∧ x = f a := by
  rw [List.getElem?_map] at h
  cases e : l[i]? with
  | none => rw [e] at h; cases h
  | some a => rw [e] at h; cases h; exact ⟨a, rfl, rfl⟩
section
variable {N : Cn}
end
theorem seqL {l : List Da} : seqD (.lst l) l := .inl rfl
theorem seqT {l : List Da} : seqD (.tup l) l := .inr rfl
def piZip2 (p : PAr) : PIt := fun ρ Q => p ρ fun ds => ∃ x y a b, ds = [x, y] ∧ seqD x a ∧ seqD y b ∧ Q (zipD a b)
def zip3D (a b c : List Da) : List Da := (a.zip (b.zip c)).map fun z => .tup [z.1, z.2.1, z.2.2]
def piZip3 (p : PAr) : PIt := fun ρ Q => p ρ fun ds => ∃ x y z a b c, ds = [x, y, z] ∧ seqD x a ∧ seqD y b ∧ seqD z c ∧ Q (zip3D a b c)
theorem rpSq {K : PySem.W.Frag} {c : CEnv} {S : Option Addr} {G : Hp} {v : V} {d : Da} {l : List Da} (h : Rp K c S G v d) (e : seqD d l) : ∃ a k xs, v = .ref a ∧ (∀ G', Same G G' → SqK K k G' a xs) ∧ RpA K c S G xs l := by
  rcases e with rfl | rfl
  · obtain ⟨a, xs, rfl, e, r⟩ := rpL h
    exact ⟨a, false, xs, rfl, fun G' s => SqL.of (s _ _ e), r⟩
  · obtain ⟨a, xs, rfl, e, r⟩ := rpT h
    exact ⟨a, true, xs, rfl, fun G' s => Same.sqT s e, r⟩
section
variable {N : Cn}
theorem sim_iZip2 {t : TA} {p : PAr} (h : SimA N t p) : SimI N (iZip2 N.K t) (piZip2 p) := by
  intro w H0 B aw ow H σ ρ R Q' r q k
  refine h w H0 B aw ow H σ ρ _ _ r q fun vs ds H1 r1 x1 h1 q1 => ?_
  obtain ⟨x, y, a, b, rfl, sx, sy, q1⟩ := q1
  obtain ⟨v, u, rfl, ha, hb⟩ := rps2 h1
  obtain ⟨pa, k1, xs, rfl, ea, ra⟩ := rpSq ha sx
  obtain ⟨pb, k2, ys, rfl, eb, rb⟩ := rpSq hb sy
  have la := rpsLen ra
  have lb := rpsLen rb
  refine ⟨pa, pb, k1, k2, xs, ys, rfl, ea _ hid_le, eb _ hid_le, k _ _ H1 r1 x1 ⟨fun i H h s => ⟨xs, ys, ea _ s, eb _ s, by rw [zipD_len] at h; omega⟩, fun i H h s => ?_, fun i H x H' d hd s y => ?_⟩ q1⟩
  · rw [zipD_len] at h
    have h1 : i < xs.length := by omega
    have h2 : i < ys.length := by omega
    exact ⟨xs, ys, xs[i], ys[i], ea _ s, eb _ s, by simp [h1], by simp [h2]⟩
  · obtain ⟨T, x1, y1, rfl, hT, rfl, f1, f2⟩ := y
    obtain ⟨d1, d2, e1, e2, rfl⟩ := zipD_get hd
    obtain ⟨v, hv, rv⟩ := rpsGet ra e1
    obtain ⟨u, hu, ru⟩ := rpsGet rb e2
    have z1 := f1 xs (ea _ s)
    have z2 := f2 ys (eb _ s)
    rw [hv] at z1; rw [hu] at z2
    cases z1; cases z2
    exact ⟨Same.new hT (Same.refl _), fun O oc t => rp_pair hT oc (rpS t rv) (rpS t ru)⟩
end
theorem p_izip2 {t : PAr} {ρ : PEnv} {QA : List Da → Prop} (k : t ρ fun ds => ∃ x y a b, ds = [x, y] ∧ seqD x a ∧ seqD y b ∧ QA (zipD a b)) : piZip2 t ρ QA := k
theorem p_zip2 {x y : Da} {a b : List Da} {P : List Da → List Da → Prop} (h1 : seqD x a) (h2 : seqD y b) (k : P a b) : ∃ x' y' a b, [x, y] = [x', y'] ∧ seqD x' a ∧ seqD y' b ∧ P a b := ⟨x, y, a, b, rfl, h1, h2, k⟩
theorem p_izip3 {t : PAr} {ρ : PEnv} {QA : List Da → Prop} (k : t ρ fun ds => ∃ x y z a b c, ds = [x, y, z] ∧ seqD x a ∧ seqD y b ∧ seqD z c ∧ QA (zip3D a b c)) : piZip3 t ρ QA := k
theorem p_zip3 {x y z : Da} {a b c : List Da} {P : List Da → List Da → List Da → Prop} (h1 : seqD x a) (h2 : seqD y b) (h3 : seqD z c) (k : P a b c) : ∃ x' y' z' a b c, [x, y, z] = [x', y', z'] ∧ seqD x' a ∧ seqD y' b ∧ seqD z' c ∧ P a b c := ⟨x, y, z, a, b, c, rfl, h1, h2, h3, k⟩

theorem prD_get {l : List (Da × Da)} {i : Nat} {x : Da} (h : (prD l)[i]? = some x) : ∃ z, l[i]? = some z ∧ z ∈ l ∧ x = .tup [z.1, z.2] := by
  rw [List.getElem?_map] at h
  cases e : l[i]? with
  | none => rw [e] at h; cases h
  | some z => rw [e] at h; cases h; exact ⟨z, rfl, List.mem_of_getElem? e, rfl⟩
-- same_value(a, b): slots 0:a 1:b
-- same_fields(a, b): slots 0:a 1:b 2:name 3:worth 4:other 5:second
abbrev RK : List Str := ["name", "vector", "fields", "words"]
abbrev recD (n : Da) (v f w : List Da) : Da := .ins "Record" RK [n, .tup v, .tup f, .tup w]
def ps_Record_init : PSi := fun ds Q _ => ∃ n v f w lv lf lw, ds = [n, v, f, w] ∧ seqD v lv ∧ seqD f (prD lf) ∧ seqD w (prD lw) ∧ lf.length ≤ 1000 ∧ lw.length ≤ 1000 ∧ Q [n, .tup lv, .tup (prD lf), .tup (prD lw)]
def sp_Record_init (K : PySem.W.Frag) (c : CEnv) : Sp := liftI K c "Record" RK ps_Record_init
theorem b_Record_init {K : PySem.W.Frag} {c : CEnv} : SpSimI K c "Record" RK (sp_Record_init K c) ps_Record_init := spSimI_lift
abbrev N_Record_init : List Str := ["self", "name", "vector", "fields", "words", "field", "worth", "word", "count"]
-- Record.__init__(self, name, vector, fields, words): slots 0:self 1:name 2:vector 3:fields 4:words 5:field 6:worth 7:word 8:count
def T_Record_init (K : PySem.W.Frag) : TS :=
    (tSeq (sFld K (tVar 0) (tVar 1) "name")
    (tSeq (sFld K (tVar 0) (tCB (uTuple K) (tCons (tVar 2) tNil)) "vector")
    (tSeq (sFld K (tVar 0) (tCB (uTuple K) (tCons (tLc (iSq K (tVar 3)) (gTup K 2 (gCons (gName 5) (gCons (gName 6) gNil))) tYes (tTup (tCons (tVar 5) (tCons (tVar 6) tNil))) [5, 6]) tNil)) "fields")
    (sFld K (tVar 0) (tCB (uTuple K) (tCons (tLc (iSq K (tVar 4)) (gTup K 2 (gCons (gName 7) (gCons (gName 8) gNil))) tYes (tTup (tCons (tVar 7) (tCons (tVar 8) tNil))) [7, 8]) tNil)) "words"))))
def P_Record_init : PSt :=
    (pSeq (pSetF 0 "name" (pVar 1))
    (pSeq (pSetF 0 "vector" (pCB pTuple (pCons (pVar 2) pNil)))
    (pSeq (pSetF 0 "fields" (pCB pTuple (pCons (pLc (piSq (pVar 3)) (pgTup 2 (pgCons (pgName 5) (pgCons (pgName 6) pgNil))) pYes (pTup (pCons (pVar 5) (pCons (pVar 6) pNil))) [5, 6]) pNil)))
    (pSetF 0 "words" (pCB pTuple (pCons (pLc (piSq (pVar 4)) (pgTup 2 (pgCons (pgName 7) (pgCons (pgName 8) pgNil))) pYes (pTup (pCons (pVar 7) (pCons (pVar 8) pNil))) [7, 8]) pNil))))))
theorem S_Record_init {K : PySem.W.Frag} {c : CEnv} {W : WX} {Wp : WP} : SimS ⟨K, c, W, Wp⟩ (T_Record_init K) (P_Record_init) := by
  unfold T_Record_init P_Record_init
  exact (sim_seq (sim_setF (sim_var 1))
    (sim_seq (sim_setF (sim_cb sim_tuple (sim_cons (sim_var 2) sim_nil)))
    (sim_seq (sim_setF (sim_cb sim_tuple (sim_cons (sim_lc (sim_iSq (sim_var 3)) (sim_gTup (sim_gCons (sim_gName 5) (sim_gCons (sim_gName 6) sim_gNil))) (by decide) sim_yes (sim_tup (sim_cons (sim_var 5) (sim_cons (sim_var 6) sim_nil)))) sim_nil)))
    (sim_setF (sim_cb sim_tuple (sim_cons (sim_lc (sim_iSq (sim_var 4)) (sim_gTup (sim_gCons (sim_gName 7) (sim_gCons (sim_gName 8) sim_gNil))) (by decide) sim_yes (sim_tup (sim_cons (sim_var 7) (sim_cons (sim_var 8) sim_nil)))) sim_nil))))))

theorem q_Record_init : ∀ ds Q E, ps_Record_init ds Q E → ds.length + 1 = 5 ∧ P_Record_init { nx := endI "Record" RK Q, rt := fun _ => False } (startI "Record" RK 9 ds) := by
  rintro _ Q E ⟨n, v, f, w, lv, lf, lw, rfl, hv, hf, hw, l1, l2, q⟩
  refine ⟨rfl, ?_⟩
  show P_Record_init _ [some (.obj "Record" RK [] []), some (.d n), some (.d v), some (.d f), some (.d w), none, none, none, none]
  unfold P_Record_init
  walk_at "pz"
  refine p_tupleS hv ?_
  walk_at "pz"
  refine p_isqS hf ?_
  refine p_map (by rw [prD_len]; omega) id (fun i x R hx k => ?_) ?_
  · obtain ⟨z, _, _, rfl⟩ := prD_get hx
    walk_at "pz"
    exact k
  rw [List.map_id]
  walk_at "pz"
  refine p_isqS hw ?_
  refine p_map (by rw [prD_len]; omega) id (fun i x R hx k => ?_) ?_
  · obtain ⟨z, _, _, rfl⟩ := prD_get hx
    walk_at "pz"
    exact k
  rw [List.map_id]
  walk_at "pz"
  exact ⟨_, rfl, q⟩
theorem w_Record_init {K : PySem.W.Frag} {c : CEnv} : Wd (T_Record_init K) N_Record_init 5 (sp_Record_init K c) := wd_liftI S_Record_init (by decide) q_Record_init
-- Record.__eq__(self, other): slots 0:self 1:other
local macro_rules | `(tactic| walk_at "pu") => `(tactic| (with_reducible first | refine p_istr ?_ | refine p_cstT ?_ | refine p_kout ?_ | refine p_kin ?_ | refine p_kst ?_ | refine p_ord ?_ | (refine p_lenS (by omega) ?_)))
local macro_rules | `(tactic| walk_at "pv") => `(tactic| repeat (first | walk_at "p1" | walk_at "pu"))
local macro_rules | `(tactic| walk_at "pw") => `(tactic| repeat (first | walk_at "p1" | walk_at "pu" | walk_at "pd"))

structure RecF where
  n : Str
  v : List Int
  f : List (Str × Da)
  w : List (Str × Int)
abbrev fF (f : List (Str × Da)) : List (Da × Da) := f.map fun x => (.str x.1, x.2)
abbrev wF (w : List (Str × Int)) : List (Da × Da) := w.map fun x => (.str x.1, .int x.2)
def RecF.da (r : RecF) : Da := recD (.str r.n) (iD r.v) (prD (fF r.f)) (prD (wF r.w))
-- string_part(text): slots 0:text 1:sign
-- value_part(worth): slots 0:worth
-- row_of(number, record): slots 0:number 1:record 2:row 3:name 4:worth 5:word 6:count
-- fold(row, factor): slots 0:row 1:factor 2:state 3:number
-- mark_of(key, number, record): slots 0:key 1:number 2:record 3:row
local macro_rules | `(tactic| walk_at "pu") => `(tactic| (with_reducible first | refine p_istr ?_ | refine p_cstT ?_ | refine p_kout ?_ | refine p_kin ?_ | refine p_kst ?_ | refine p_ord ?_ | (refine p_lenS (by omega) ?_)))
local macro_rules | `(tactic| walk_at "pv") => `(tactic| repeat (first | walk_at "p1" | walk_at "pu"))
local macro_rules | `(tactic| walk_at "pw") => `(tactic| repeat (first | walk_at "p1" | walk_at "pu" | walk_at "pd"))

def letC (c : Nat) : Bool := (decide (97 ≤ c) && decide (c ≤ 122)) || ((decide (65 ≤ c) && decide (c ≤ 90)) || c == 95)
def digC (c : Nat) : Bool := decide (48 ≤ c) && decide (c ≤ 57)
theorem lt_one {c d : Nat} : ([c] : List Nat) < [d] ↔ c < d := by
  rw [List.cons_lt_cons_iff]
  constructor
  · rintro (h | ⟨_, h⟩)
    · exact h
    · exact absurd h (List.lt_irrefl _)
  · exact fun h => .inl h
theorem dec_le {c d : Nat} {x y : Str} (hx : x.cps.toList = [c]) (hy : y.cps.toList = [d]) : (!decide (y.cps.toList < x.cps.toList)) = decide (c ≤ d) := by
  rw [hx, hy, Bool.eq_iff_iff]
  simp only [Bool.not_eq_true', decide_eq_false_iff_not, decide_eq_true_iff, lt_one]
  omega
abbrev one (c : Nat) : Str := ⟨#[c]⟩
theorem one_us (c : Nat) : decide (one c = "_") = (c == 95) := by
  rw [show ("_" : Str) = one 95 by decide +kernel, Bool.eq_iff_iff, decide_eq_true_iff, beq_iff_eq]
  constructor
  · intro h; injection h with h; simpa using h
  · intro h; rw [h]
def WRD : List Str := ["every", "has", "in", "and", "or", "not", "true", "false"]
def KND : List Str := ["integer", "text", "flag"]
def MSR : List Str := ["square", "dot", "bits"]
def fnZ (x : Str) : Bool := !decide (x = "") && (letC (x.cps.toList.headD 0) && (!decide (x ∈ WRD) && x.cps.toList.all fun c => letC c || digC c))
theorem atI_zero {α : Type} {a : α} {l : List α} : atI (a :: l) 0 = some a := by
  unfold atI ixN
  rw [if_pos (Int.le_refl 0), if_pos (by simp only [List.length_cons]; omega)]; rfl
theorem inD_str (x : Str) (ks : List Str) : inD (.str x) (ks.map Da.str) = decide (x ∈ ks) := by
  unfold inD
  rw [Bool.eq_iff_iff, List.any_eq_true, decide_eq_true_iff]
  constructor
  · rintro ⟨y, hy, e⟩
    obtain ⟨m, hm, rfl⟩ := List.mem_map.mp hy
    rw [eqD_SS] at e
    have : m = x := by simpa using e
    rw [← this]; exact hm
  · intro h
    exact ⟨.str x, List.mem_map.mpr ⟨x, h, rfl⟩, by rw [eqD_SS]; simp⟩
theorem p_inTS {x : Str} {ks : List Str} {Q : Da → Prop} (k : Q (.bl (decide (x ∈ ks)))) : pIn (.str x) (.tup (ks.map Da.str)) Q := ⟨rfl, flX, by rw [inD_str]; exact k⟩
theorem p_inLS {x : Str} {ks : List Str} {Q : Da → Prop} (k : Q (.bl (decide (x ∈ ks)))) : pIn (.str x) (.lst (ks.map Da.str)) Q := ⟨rfl, flX, by rw [inD_str]; exact k⟩
theorem p_notInTS {x : Str} {ks : List Str} {Q : Da → Prop} (k : Q (.bl (!decide (x ∈ ks)))) : pNotIn (.str x) (.tup (ks.map Da.str)) Q := ⟨rfl, flX, by rw [inD_str]; exact k⟩
def ps_is_letter : PSp := fun ds Q _ => ∃ c : Nat, ds = [.str (one c)] ∧ Q (.bl (letC c))
def sp_is_letter (K : PySem.W.Frag) (c : CEnv) : Sp := lift K c ps_is_letter
theorem b_is_letter {K : PySem.W.Frag} {c : CEnv} : SpSim K c (sp_is_letter K c) ps_is_letter := spSim_lift
abbrev N_is_letter : List Str := ["sign"]
-- is_letter(sign): slots 0:sign
def T_is_letter (K : PySem.W.Frag) : TS :=
    (tRet (tOrV (tChain uLe uLe (tC (.str "a")) (tVar 0) (tC (.str "z"))) (tOrV (tChain uLe uLe (tC (.str "A")) (tVar 0) (tC (.str "Z"))) (tOp (uEq K) (tVar 0) (tC (.str "_"))))))
def P_is_letter : PSt :=
    (pRet (pOrV (pChain pLe pLe (pC (.str "a")) (pVar 0) (pC (.str "z"))) (pOrV (pChain pLe pLe (pC (.str "A")) (pVar 0) (pC (.str "Z"))) (pOp pEq (pVar 0) (pC (.str "_"))))))
theorem S_is_letter {K : PySem.W.Frag} {c : CEnv} : SimS ⟨K, c, W0, fun _ _ => False⟩ (T_is_letter K) (P_is_letter) := by
  unfold T_is_letter P_is_letter
  exact (sim_ret (sim_orV (sim_chain sim_le sim_le (sim_str _) (sim_var 0) (sim_str _)) (sim_orV (sim_chain sim_le sim_le (sim_str _) (sim_var 0) (sim_str _)) (sim_op sim_eq (sim_var 0) (sim_str _)))))

theorem q_is_letter : ∀ ds Q E, ps_is_letter ds Q E → ds.length = 1 ∧ P_is_letter { nx := fun _ => Q .non, rt := Q } (startP 1 ds) := by
  rintro _ Q E ⟨c, rfl, q⟩
  refine ⟨rfl, ?_⟩
  show P_is_letter _ [some (.d (.str (one c)))]
  unfold P_is_letter
  unfold letC at q
  walk_at "pz"
  rw [dec_le (x := "a") (y := one c) (c := 97) (d := c) rfl rfl]
  have third : ∀ b, b = (decide (97 ≤ c) && decide (c ≤ 122)) → b = false → pOrV (pChain pLe pLe (pC (.str "A")) (pVar 0) (pC (.str "Z"))) (pOp pEq (pVar 0) (pC (.str "_"))) [some (.d (.str (one c)))] Q := fun b e z => by
    subst z
    rw [← e, Bool.false_or] at q
    walk_at "pz"
    rw [dec_le (x := "A") (y := one c) (c := 65) (d := c) rfl rfl]
    cases c3 : decide (65 ≤ c) with
    | false =>
      rw [c3] at q
      walk_at "px"
      rw [one_us]
      simpa using q
    | true =>
      rw [c3] at q
      walk_at "px"
      rw [dec_le (x := one c) (y := "Z") (c := c) (d := 90) rfl rfl]
      cases c4 : decide (c ≤ 90) with
      | false =>
        rw [c4] at q
        walk_at "px"
        rw [one_us]
        simpa using q
      | true =>
        rw [c4] at q
        walk_at "px"
        exact q
  cases c1 : decide (97 ≤ c) with
  | false =>
    rw [c1] at third
    walk_at "pd"
    walk_at "p1"
    walk_at "pd"
    exact third false rfl rfl
  | true =>
    rw [c1] at q third
    walk_at "px"
    rw [dec_le (x := one c) (y := "z") (c := c) (d := 122) rfl rfl]
    cases c2 : decide (c ≤ 122) with
    | false =>
      rw [c2] at third
      walk_at "pd"
      exact third false rfl rfl
    | true =>
      rw [c2] at q
      walk_at "px"
      exact q
theorem w_is_letter {K : PySem.W.Frag} {c : CEnv} : Wd (T_is_letter K) N_is_letter 1 (sp_is_letter K c) := wd_lift S_is_letter q_is_letter
def ps_is_digit : PSp := fun ds Q _ => ∃ c : Nat, ds = [.str (one c)] ∧ Q (.bl (digC c))
def sp_is_digit (K : PySem.W.Frag) (c : CEnv) : Sp := lift K c ps_is_digit
theorem b_is_digit {K : PySem.W.Frag} {c : CEnv} : SpSim K c (sp_is_digit K c) ps_is_digit := spSim_lift
abbrev N_is_digit : List Str := ["sign"]
-- is_digit(sign): slots 0:sign
def T_is_digit (K : PySem.W.Frag) : TS :=
    (tRet (tChain uLe uLe (tC (.str "0")) (tVar 0) (tC (.str "9"))))
def P_is_digit : PSt :=
    (pRet (pChain pLe pLe (pC (.str "0")) (pVar 0) (pC (.str "9"))))
theorem S_is_digit {K : PySem.W.Frag} {c : CEnv} : SimS ⟨K, c, W0, fun _ _ => False⟩ (T_is_digit K) (P_is_digit) := by
  unfold T_is_digit P_is_digit
  exact (sim_ret (sim_chain sim_le sim_le (sim_str _) (sim_var 0) (sim_str _)))

theorem q_is_digit : ∀ ds Q E, ps_is_digit ds Q E → ds.length = 1 ∧ P_is_digit { nx := fun _ => Q .non, rt := Q } (startP 1 ds) := by
  rintro _ Q E ⟨c, rfl, q⟩
  refine ⟨rfl, ?_⟩
  show P_is_digit _ [some (.d (.str (one c)))]
  unfold P_is_digit
  unfold digC at q
  walk_at "pz"
  rw [dec_le (x := "0") (y := one c) (c := 48) (d := c) rfl rfl]
  cases c1 : decide (48 ≤ c) with
  | false =>
    rw [c1] at q
    walk_at "px"
    exact q
  | true =>
    rw [c1] at q
    walk_at "px"
    rw [dec_le (x := one c) (y := "9") (c := c) (d := 57) rfl rfl]
    exact q
theorem w_is_digit {K : PySem.W.Frag} {c : CEnv} : Wd (T_is_digit K) N_is_digit 1 (sp_is_digit K c) := wd_lift S_is_digit q_is_digit
def ps_is_field_name : PSp := fun ds Q _ => ∃ x : Str, ds = [.str x] ∧ x.length ≤ 90000 ∧ Q (.bl (fnZ x))
def sp_is_field_name (K : PySem.W.Frag) (c : CEnv) : Sp := lift K c ps_is_field_name
theorem b_is_field_name {K : PySem.W.Frag} {c : CEnv} : SpSim K c (sp_is_field_name K c) ps_is_field_name := spSim_lift
abbrev N_is_field_name : List Str := ["name", "sign"]
-- is_field_name(name): slots 0:name 1:sign
def T_is_field_name_b1 (K : PySem.W.Frag) (c : CEnv) : TS :=
    (tIfS (tAnd (tNot (tTru K (tCal (sp_is_letter K c) (tCons (tVar 1) tNil)))) (tNot (tTru K (tCal (sp_is_digit K c) (tCons (tVar 1) tNil))))) (tRet (tC (.bl false))) tNext)
def T_is_field_name (K : PySem.W.Frag) (c : CEnv) : TS :=
    (tSeq (tIfS (tOr (tTest (tOp (uEq K) (tVar 0) (tC (.str "")))) (tOr (tNot (tTru K (tCal (sp_is_letter K c) (tCons (tOp (uIx K) (tVar 0) (tC (.int 0))) tNil)))) (tTest (tOp (uIn K) (tVar 0) (tCstT K [.str "every", .str "has", .str "in", .str "and", .str "or", .str "not", .str "true", .str "false"]))))) (tRet (tC (.bl false))) tNext)
    (tSeq (tFor (iStr (tVar 0)) (gName 1) (T_is_field_name_b1 K c))
    (tRet (tC (.bl true)))))
def P_is_field_name_b1 : PSt :=
    (pIfS (pAnd (pNot (pTru (pCal ps_is_letter (pCons (pVar 1) pNil)))) (pNot (pTru (pCal ps_is_digit (pCons (pVar 1) pNil))))) (pRet (pC (.bl false))) pNext)
def P_is_field_name : PSt :=
    (pSeq (pIfS (pOr (pTest (pOp pEq (pVar 0) (pC (.str "")))) (pOr (pNot (pTru (pCal ps_is_letter (pCons (pOp pIx (pVar 0) (pC (.int 0))) pNil)))) (pTest (pOp pIn (pVar 0) (pCstT [.str "every", .str "has", .str "in", .str "and", .str "or", .str "not", .str "true", .str "false"]))))) (pRet (pC (.bl false))) pNext)
    (pSeq (pFor (piStr (pVar 0)) (pgName 1) P_is_field_name_b1)
    (pRet (pC (.bl true)))))
theorem S_is_field_name {K : PySem.W.Frag} {c : CEnv} : SimS ⟨K, c, W0, fun _ _ => False⟩ (T_is_field_name K c) (P_is_field_name) := by
  unfold T_is_field_name P_is_field_name T_is_field_name_b1 P_is_field_name_b1
  exact (sim_seq (sim_ifS (sim_or (sim_test (sim_op sim_eq (sim_var 0) (sim_str _))) (sim_or (sim_not (sim_tru (sim_cal b_is_letter (sim_cons (sim_op sim_ix (sim_var 0) (sim_int _)) sim_nil)))) (sim_test (sim_op sim_in (sim_var 0) sim_cstT)))) (sim_ret (sim_bl _)) sim_next)
    (sim_seq (sim_for (sim_iStr (sim_var 0)) (sim_gName 1) (sim_ifS (sim_and (sim_not (sim_tru (sim_cal b_is_letter (sim_cons (sim_var 1) sim_nil)))) (sim_not (sim_tru (sim_cal b_is_digit (sim_cons (sim_var 1) sim_nil))))) (sim_ret (sim_bl _)) sim_next))
    (sim_ret (sim_bl _))))

theorem q_is_field_name : ∀ ds Q E, ps_is_field_name ds Q E → ds.length = 1 ∧ P_is_field_name { nx := fun _ => Q .non, rt := Q } (startP 2 ds) := by
  rintro _ Q E ⟨x, rfl, hx, q⟩
  refine ⟨rfl, ?_⟩
  show P_is_field_name _ [some (.d (.str x)), none]
  unfold P_is_field_name
  walk_at "pz"
  by_cases h0 : x = ""
  · rw [decide_eq_true h0]
    walk_at "px"
    rw [show fnZ x = false by unfold fnZ; rw [decide_eq_true h0]; rfl] at q
    exact q
  rw [decide_eq_false h0]
  walk_at "px"
  obtain ⟨c0, r, e0⟩ : ∃ c0 r, x.cps.toList = c0 :: r := by
    cases e : x.cps.toList with
    | nil =>
      exfalso
      cases x with
      | mk a =>
        have z : a = #[] := by simpa using e
        subst z
        exact h0 (by decide +kernel)
    | cons c r => exact ⟨c, r, rfl⟩
  refine ⟨by omega, c0, by rw [e0]; exact atI_zero, ?_⟩
  walk_at "pz"
  refine ⟨c0, rfl, ?_⟩
  walk_at "pz"
  cases hl : letC c0 with
  | false =>
    walk_at "px"
    rw [show fnZ x = false by unfold fnZ; rw [e0]; show (_ && (letC c0 && _)) = false; rw [hl]; simp] at q
    exact q
  | true =>
  walk_at "pw"
  refine p_inTS (ks := WRD) ?_
  by_cases hw : x ∈ WRD
  · rw [decide_eq_true hw]
    walk_at "px"
    rw [show fnZ x = false by unfold fnZ; rw [decide_eq_true hw]; simp] at q
    exact q
  rw [decide_eq_false hw]
  walk_at "pw"
  have eq : fnZ x = x.cps.toList.all fun c => letC c || digC c := by
    unfold fnZ
    rw [decide_eq_false h0, decide_eq_false hw, e0]
    show (!false && (letC c0 && _)) = _
    rw [hl]; simp
  refine p_loop (fun i ρ => (∀ c ∈ x.cps.toList.take i, (letC c || digC c) = true) ∧ ∃ (w : Option Pv), ρ = [some (.d (.str x)), w]) ⟨(fun _ h => nomatch h), _, rfl⟩ ?_ ?_
  · rintro i d ρ' hd ⟨ok, w, rfl⟩
    obtain ⟨c, hc2, rfl⟩ := mapD_get hd
    have memc : c ∈ x.cps.toList := List.mem_of_getElem? hc2
    unfold P_is_field_name_b1
    walk_at "pz"
    refine ⟨c, rfl, ?_⟩
    walk_at "pz"
    have step : (letC c || digC c) = true → ∀ d ∈ x.cps.toList.take (i + 1), (letC d || digC d) = true := fun h d hd => by
      rw [List.take_succ, hc2] at hd
      rcases List.mem_append.mp hd with hd | hd
      · exact ok d hd
      · have : d = c := by simpa using hd
        rw [this]; exact h
    cases h1 : letC c with
    | true =>
      walk_at "px"
      exact ⟨step (by rw [h1]; rfl), _, rfl⟩
    | false =>
      walk_at "px"
      refine ⟨c, rfl, ?_⟩
      walk_at "pz"
      cases h2 : digC c with
      | true =>
        walk_at "px"
        exact ⟨step (by rw [h2]; simp), _, rfl⟩
      | false =>
        walk_at "px"
        have nf : fnZ x = false := by
          rw [eq, Bool.eq_false_iff]
          intro h
          have := List.all_eq_true.mp h c memc
          rw [h1, h2] at this; cases this
        rw [nf] at q
        exact q
  · rintro ρ' ⟨ok, w, rfl⟩
    walk_at "pz"
    rw [show fnZ x = true by
      rw [eq, List.all_eq_true]
      intro c hc
      exact ok c (by rw [List.take_of_length_le (by show x.cps.toList.length ≤ (strD x).length; unfold strD; rw [List.length_map]; exact Nat.le_refl _)]; exact hc)] at q
    exact q
theorem w_is_field_name {K : PySem.W.Frag} {c : CEnv} : Wd (T_is_field_name K c) N_is_field_name 1 (sp_is_field_name K c) := wd_lift S_is_field_name q_is_field_name

abbrev SCK : List Str := ["size", "width", "measure", "fields"]
abbrev RNG : List (Str × DV) := [("bit", .t [.int 0, .int 1]), ("small", .t [.int (-128), .int 127]), ("wide", .t [.int (-32768), .int 32767])]
abbrev ssF (f : List (Str × Str)) : List (Da × Da) := f.map fun x => (.str x.1, .str x.2)
theorem nodup_take {α β : Type} {f : α → β} : ∀ {l : List α} {i : Nat} {a : α}, (l.map f).Nodup → l[i]? = some a → f a ∉ (l.take i).map f
  | [], _, _, _, h => by cases h
  | x :: l, 0, a, _, h => by simp
  | x :: l, i + 1, a, nd, h => by
    rw [List.map_cons, List.nodup_cons] at nd
    rw [List.take_succ_cons, List.map_cons, List.mem_cons]
    rintro (e | e)
    · exact nd.1 (e ▸ List.mem_map_of_mem (List.mem_of_getElem? h))
    · exact nodup_take nd.2 (by simpa using h) e
structure SchF where
  n : Int
  w : Str
  m : Str
  f : List (Str × Str)
def SchF.da (s : SchF) : Da := .ins "Schema" SCK [.int s.n, .str s.w, .str s.m, .tup (prD (ssF s.f))]
structure SchF.Ok (s : SchF) : Prop where
  hn : 1 ≤ s.n
  hw : (RNG.lookup s.w).isSome = true
  hm : s.m ∈ MSR
  hb : s.m = "bits" → s.w = "bit"
  hf : ∀ x ∈ s.f, x.2 ∈ KND ∧ fnZ x.1 = true ∧ x.1.length ≤ 90000
  hd : (s.f.map (·.1)).Nodup
  hl : s.f.length ≤ 1000
def ps_Schema_init : PSi := fun ds Q _ => ∃ (s : SchF) (fv : Da), ds = [.int s.n, .str s.w, .str s.m, fv] ∧ seqD fv (prD (ssF s.f)) ∧ s.Ok ∧ Q [.int s.n, .str s.w, .str s.m, .tup (prD (ssF s.f))]
def sp_Schema_init (K : PySem.W.Frag) (c : CEnv) : Sp := liftI K c "Schema" SCK ps_Schema_init
theorem b_Schema_init {K : PySem.W.Frag} {c : CEnv} : SpSimI K c "Schema" SCK (sp_Schema_init K c) ps_Schema_init := spSimI_lift
abbrev N_Schema_init : List Str := ["self", "size", "width", "measure", "fields", "names", "name", "kind"]
-- Schema.__init__(self, size, width, measure, fields): slots 0:self 1:size 2:width 3:measure 4:fields 5:names 6:name 7:kind
def T_Schema_init_b1 (K : PySem.W.Frag) (c : CEnv) (W : WX) : TS :=
    (tSeq (tIfS (tOr (tTest (tOp (uNotIn K) (tVar 7) (tCstT K [.str "integer", .str "text", .str "flag"]))) (tOr (tNot (tTru K (tCal (sp_is_field_name K c) (tCons (tVar 6) tNil)))) (tTest (tOp (uIn K) (tVar 6) (tVar 5))))) (sRaise c "InvalidSchema" W) tNext)
    (tDrop (tBM K "list" rAppend (tVar 5) (tCons (tVar 6) tNil))))
def T_Schema_init (K : PySem.W.Frag) (c : CEnv) (W : WX) : TS :=
    (tSeq (tIfS (tOr (tTest (tOp (uLt K) (tVar 1) (tC (.int 1)))) (tOr (tTest (tKout [("bit", .t [.int 0, .int 1]), ("small", .t [.int (-128), .int 127]), ("wide", .t [.int (-32768), .int 32767])] (tVar 2))) (tTest (tOp (uNotIn K) (tVar 3) (tCstT K [.str "square", .str "dot", .str "bits"]))))) (sRaise c "InvalidSchema" W) tNext)
    (tSeq (tIfS (tAnd (tTest (tOp (uEq K) (tVar 3) (tC (.str "bits")))) (tTest (tOp (uNe K) (tVar 2) (tC (.str "bit"))))) (sRaise c "InvalidSchema" W) tNext)
    (tSeq (tAsg (tLst tNil) (gName 5))
    (tSeq (tFor (iSq K (tVar 4)) (gTup K 2 (gCons (gName 6) (gCons (gName 7) gNil))) (T_Schema_init_b1 K c W))
    (tSeq (sFld K (tVar 0) (tVar 1) "size")
    (tSeq (sFld K (tVar 0) (tVar 2) "width")
    (tSeq (sFld K (tVar 0) (tVar 3) "measure")
    (sFld K (tVar 0) (tCB (uTuple K) (tCons (tLc (iSq K (tVar 4)) (gTup K 2 (gCons (gName 6) (gCons (gName 7) gNil))) tYes (tTup (tCons (tVar 6) (tCons (tVar 7) tNil))) [6, 7]) tNil)) "fields"))))))))
def P_Schema_init_b1 (Wp : WP) : PSt :=
    (pSeq (pIfS (pOr (pTest (pOp pNotIn (pVar 7) (pCstT [.str "integer", .str "text", .str "flag"]))) (pOr (pNot (pTru (pCal ps_is_field_name (pCons (pVar 6) pNil)))) (pBorT 5 (pTest (pOp pIn (pVar 6) (pVar 5)))))) (pRaise Wp "InvalidSchema") pNext)
    (pApp 5 (pVar 6)))
def P_Schema_init (Wp : WP) : PSt :=
    (pSeq (pIfS (pOr (pTest (pOp pLt (pVar 1) (pC (.int 1)))) (pOr (pTest (pKout [("bit", .t [.int 0, .int 1]), ("small", .t [.int (-128), .int 127]), ("wide", .t [.int (-32768), .int 32767])] (pVar 2))) (pTest (pOp pNotIn (pVar 3) (pCstT [.str "square", .str "dot", .str "bits"]))))) (pRaise Wp "InvalidSchema") pNext)
    (pSeq (pIfS (pAnd (pTest (pOp pEq (pVar 3) (pC (.str "bits")))) (pTest (pOp pNe (pVar 2) (pC (.str "bit"))))) (pRaise Wp "InvalidSchema") pNext)
    (pSeq (pAsgO 5 (pNewL pNil))
    (pSeq (pFor (piSq (pVar 4)) (pgTup 2 (pgCons (pgName 6) (pgCons (pgName 7) pgNil))) (P_Schema_init_b1 Wp))
    (pSeq (pSetF 0 "size" (pVar 1))
    (pSeq (pSetF 0 "width" (pVar 2))
    (pSeq (pSetF 0 "measure" (pVar 3))
    (pSetF 0 "fields" (pCB pTuple (pCons (pLc (piSq (pVar 4)) (pgTup 2 (pgCons (pgName 6) (pgCons (pgName 7) pgNil))) pYes (pTup (pCons (pVar 6) (pCons (pVar 7) pNil))) [6, 7]) pNil))))))))))
theorem S_Schema_init {K : PySem.W.Frag} {c : CEnv} {W : WX} {Wp : WP} : SimS ⟨K, c, W, Wp⟩ (T_Schema_init K c W) (P_Schema_init Wp) := by
  unfold T_Schema_init P_Schema_init T_Schema_init_b1 P_Schema_init_b1
  exact (sim_seq (sim_ifS (sim_or (sim_test (sim_op sim_lt (sim_var 1) (sim_int _))) (sim_or (sim_test (sim_kout (sim_var 2))) (sim_test (sim_op sim_notIn (sim_var 3) sim_cstT)))) sim_raise sim_next)
    (sim_seq (sim_ifS (sim_and (sim_test (sim_op sim_eq (sim_var 3) (sim_str _))) (sim_test (sim_op sim_ne (sim_var 2) (sim_str _)))) sim_raise sim_next)
    (sim_seq (sim_asgO (simF_lst sim_nil))
    (sim_seq (sim_for (sim_iSq (sim_var 4)) (sim_gTup (sim_gCons (sim_gName 6) (sim_gCons (sim_gName 7) sim_gNil))) (sim_seq (sim_ifS (sim_or (sim_test (sim_op sim_notIn (sim_var 7) sim_cstT)) (sim_or (sim_not (sim_tru (sim_cal b_is_field_name (sim_cons (sim_var 6) sim_nil)))) (sim_borT (sim_test (sim_op sim_in (sim_var 6) (sim_var 5)))))) sim_raise sim_next)
    (sim_app (sim_var 6))))
    (sim_seq (sim_setF (sim_var 1))
    (sim_seq (sim_setF (sim_var 2))
    (sim_seq (sim_setF (sim_var 3))
    (sim_setF (sim_cb sim_tuple (sim_cons (sim_lc (sim_iSq (sim_var 4)) (sim_gTup (sim_gCons (sim_gName 6) (sim_gCons (sim_gName 7) sim_gNil))) (by decide) sim_yes (sim_tup (sim_cons (sim_var 6) (sim_cons (sim_var 7) sim_nil)))) sim_nil))))))))))

theorem q_Schema_init : ∀ ds Q E, ps_Schema_init ds Q E → ds.length + 1 = 5 ∧ P_Schema_init (fun x _ => E x) { nx := endI "Schema" SCK Q, rt := fun _ => False } (startI "Schema" SCK 8 ds) := by
  rintro _ Q E ⟨s, fv, rfl, hfv, ok, q⟩
  refine ⟨rfl, ?_⟩
  show P_Schema_init _ _ [some (.obj "Schema" SCK [] []), some (.d (.int s.n)), some (.d (.str s.w)), some (.d (.str s.m)), some (.d fv), none, none, none]
  unfold P_Schema_init
  have h1 := ok.hn
  have hl := ok.hl
  walk_at "pz"
  rw [decide_eq_false (show ¬ s.n < 1 by omega)]
  walk_at "pw"
  rw [ok.hw]
  walk_at "pw"
  refine p_notInTS (ks := MSR) ?_
  rw [decide_eq_true ok.hm]
  walk_at "pw"
  by_cases c : s.m = "bits"
  · rw [decide_eq_true c]
    walk_at "px"
    rw [decide_eq_true (ok.hb c)]
    walk_at "px"
    refine p_isqS hfv ?_
    refine p_loop (fun i ρ => ∃ (x6 x7 : Option Pv), ρ = [some (.obj "Schema" SCK [] []), some (.d (.int s.n)), some (.d (.str s.w)), some (.d (.str s.m)), some (.d fv), some (.own (((s.f.take i).map (·.1)).map Da.str)), x6, x7]) ⟨_, _, rfl⟩ ?_ ?_
    · rintro i d ρ' hd ⟨x6, x7, rfl⟩
      obtain ⟨z, ez, _, rfl⟩ := prD_get hd
      obtain ⟨y, ey, rfl⟩ : ∃ a, s.f[i]? = some a ∧ z = (.str a.1, .str a.2) := by
        rw [List.getElem?_map] at ez
        cases e : s.f[i]? with
        | none => rw [e] at ez; cases ez
        | some a => rw [e] at ez; cases ez; exact ⟨a, rfl, rfl⟩
      obtain ⟨f1, f2, f3⟩ := ok.hf y (List.mem_of_getElem? ey)
      have hi := (List.getElem?_eq_some_iff.mp ey).1
      unfold P_Schema_init_b1
      walk_at "pv"
      refine p_notInTS (ks := KND) ?_
      rw [decide_eq_true f1]
      walk_at "pw"
      refine ⟨_, rfl, f3, ?_⟩
      rw [f2]
      walk_at "pw"
      refine p_inLS ?_
      rw [decide_eq_false (nodup_take ok.hd ey)]
      walk_at "pw"
      · exact ⟨_, _, by rw [takeS ey, List.map_append, List.map_append]; rfl⟩
      · simp only [List.length_map, List.length_take]; omega
    · rintro ρ' ⟨x6, x7, rfl⟩
      walk_at "pz"
      refine p_isqS hfv ?_
      refine p_map (by rw [List.length_map, List.length_map]; omega) id (fun i x R hx k => ?_) ?_
      · obtain ⟨z, _, _, rfl⟩ := prD_get hx
        walk_at "pz"
        exact k
      rw [List.map_id]
      walk_at "pz"
      exact ⟨_, rfl, q⟩
  · rw [decide_eq_false c]
    walk_at "px"
    refine p_isqS hfv ?_
    refine p_loop (fun i ρ => ∃ (x6 x7 : Option Pv), ρ = [some (.obj "Schema" SCK [] []), some (.d (.int s.n)), some (.d (.str s.w)), some (.d (.str s.m)), some (.d fv), some (.own (((s.f.take i).map (·.1)).map Da.str)), x6, x7]) ⟨_, _, rfl⟩ ?_ ?_
    · rintro i d ρ' hd ⟨x6, x7, rfl⟩
      obtain ⟨z, ez, _, rfl⟩ := prD_get hd
      obtain ⟨y, ey, rfl⟩ : ∃ a, s.f[i]? = some a ∧ z = (.str a.1, .str a.2) := by
        rw [List.getElem?_map] at ez
        cases e : s.f[i]? with
        | none => rw [e] at ez; cases ez
        | some a => rw [e] at ez; cases ez; exact ⟨a, rfl, rfl⟩
      obtain ⟨f1, f2, f3⟩ := ok.hf y (List.mem_of_getElem? ey)
      have hi := (List.getElem?_eq_some_iff.mp ey).1
      unfold P_Schema_init_b1
      walk_at "pv"
      refine p_notInTS (ks := KND) ?_
      rw [decide_eq_true f1]
      walk_at "pw"
      refine ⟨_, rfl, f3, ?_⟩
      rw [f2]
      walk_at "pw"
      refine p_inLS ?_
      rw [decide_eq_false (nodup_take ok.hd ey)]
      walk_at "pw"
      · exact ⟨_, _, by rw [takeS ey, List.map_append, List.map_append]; rfl⟩
      · simp only [List.length_map, List.length_take]; omega
    · rintro ρ' ⟨x6, x7, rfl⟩
      walk_at "pz"
      refine p_isqS hfv ?_
      refine p_map (by rw [List.length_map, List.length_map]; omega) id (fun i x R hx k => ?_) ?_
      · obtain ⟨z, _, _, rfl⟩ := prD_get hx
        walk_at "pz"
        exact k
      rw [List.map_id]
      walk_at "pz"
      exact ⟨_, rfl, q⟩
theorem w_Schema_init {K : PySem.W.Frag} {c : CEnv} : WdX (T_Schema_init K c) N_Schema_init 5 (sp_Schema_init K c) := wd_liftIX (fun W Wp => S_Schema_init) (by decide) q_Schema_init

namespace ZL
open PySem PySem.Spec PyProof.Rows L2 LamX
structure LamS1 (sc scope : Scope) (y : Str) : Prop where
  kind : scope.kind = .function
  co : scope.isCoroutine = false
  gen : scope.isGenerator = false
  own : ∀ z, scope.names.lookup z = some .local → z = y
  noc : ∀ z ∈ scope.names, z.2 ≠ .cell
  par : scope.names.lookup y = some .local
  free : ∀ z ∈ scope.names, z.2 = .free → sc.names.lookup z.1 = some .cell ∨ sc.names.lookup z.1 = some .free
def lamS1B (sc scope : Scope) (y : Str) : Bool :=
  decide (scope.kind = .function) && !scope.isCoroutine && !scope.isGenerator && decide (scope.names.lookup y = some .local) && scope.names.all fun z => (!decide (z.2 = .local) || decide (z.1 = y)) && !decide (z.2 = .cell) && (!decide (z.2 = .free) || decide (sc.names.lookup z.1 = some .cell) || decide (sc.names.lookup z.1 = some .free))
theorem lamS1_by {sc scope : Scope} {y : Str} (h : lamS1B sc scope y = true) : LamS1 sc scope y := by
  unfold lamS1B at h
  simp only [Bool.and_eq_true, Bool.or_eq_true, Bool.not_eq_true', decide_eq_true_eq, decide_eq_false_iff_not, List.all_eq_true] at h
  obtain ⟨⟨⟨⟨h1, h2⟩, h3⟩, h5⟩, h4⟩ := h
  refine ⟨h1, h2, h3, fun z hz => ?_, fun z hz => (h4 z hz).1.2, h5, fun z hz e => ?_⟩
  · have hm : (z, NameKind.local) ∈ scope.names := PySem.mem_of_lookup hz
    rcases (h4 _ hm).1.1 with q | q
    · exact absurd rfl q
    · exact q
  · rcases (h4 z hz).2 with (q | q) | q
    · exact absurd e q
    · exact .inl q
    · exact .inr q
theorem LamS1.has {X : Cx} {scope : Scope} {y : Str} (L : LamS1 X.env.scope scope y) (ok : X.Ok) : ∀ z ∈ scope.names, z.2 = .free → ∃ c, X.env.cells.lookup z.1 = some c := fun z hz e => by
  rcases L.free z hz e with k | k
  · exact ok.has _ (.inl k)
  · exact ok.has _ (.inr k)
section
variable {X : Cx} {pins : List (Addr × Obj)} {σ : L2.St} {H : Hp} {s : Shared}
theorem lam1_start {A : Around} {E : XK} {scope : Scope} {f c' : Addr} {h₁ : Heap} {tk : Nat} {y : Str} {v : Value} {x : V} {j : Nat} (I : Inv X pins σ H s) (L : LamS1 X.env.scope scope y) (fr : A.frames = some X.stack) (hd : A.handled = none)
    (hns : h₁.Ns s.heap.objs.size fun z => ([(y, v)] : List (Str × Value)).reverse.lookup z) (kp : ∀ b o, s.heap.get? b = some o → h₁.get? b = some o) (rx : RelV x v) (hj : X.N[j]? = some y) (hN : ∀ i, X.N[i]? = some y → i = j) :
    Inv (lamCx X A X.stack s H E scope f c') [] (σ.set j (some x)) H { s with heap := h₁, toks := tk } := by
  have e0 : Env0 X.prog X.w X.K X.mg X.base A X.stack s H := ⟨fr, I.ok.mod, I.bs, Nat.le_trans I.ok.bsz I.sz, I.stack, I.stkFree, I.hok, I.bare⟩
  have hfree := L.has I.ok
  have cm : ∀ {z c}, (cloFrom X.env.cells scope.names []).lookup z = some c → X.env.cells.lookup z = some c := fun {z c} e => by
    rcases cloFrom_mem (PySem.mem_of_lookup e) with hm | ⟨h1, h2⟩
    · cases hm
    · obtain ⟨c1, hc⟩ := hfree _ h1 rfl
      have hc : X.env.cells.lookup z = some c1 := hc
      have e2 : c = c1 := by
        rw [h2, hc] <;> rfl
      rw [e2]
      exact hc
  have look : ∀ {z}, scope.names.lookup z = some .free → ∃ c, (cloFrom X.env.cells scope.names []).lookup z = some c := fun {z} hl => by
    have hy : (z, NameKind.free) ∈ scope.names := PySem.mem_of_lookup hl
    exact mem_lookup (cloFrom_has (cells := X.env.cells) (acc := []) hy)
  have cellK : ∀ {c : Addr} {w : Option Value}, s.heap.IsCell c w → h₁.IsCell c w := fun {c w} ⟨o, ho, hd⟩ => ⟨o, kp _ _ ho, hd⟩
  have noA : ∀ b : Addr, b ∉ (lamCx X A X.stack s H E scope f c').ex := fun b z => absurd (show b ∈ ([] : List Addr) from z) (by simp)
  refine ⟨⟨e0.mod, L.kind, rfl, rfl, Nat.le_refl _, fun y z c e1 e2 => I.ok.inj y z c (cm e1) (cm e2), fun z hz => ?_, fun z c q _ => ?_, fun _ => hd, Around.frames_deeper e0.frames, .inr ⟨rfl, rfl⟩, fun b z => absurd z (noA b), e0.bs, e0.bsz, fun b _ _ => noA b,
      fun b z => absurd z (noA b), e0.funs, e0.frf⟩,
    rfl, e0.bare, Un.kept kp, ⟨_, hns, fun i z w e1 e2 e3 => ?_⟩, fun z c e => ?_, e0.hok.fresh (Nat.le_refl _), fun z c e => ?_, fun q hq => absurd (show q ∈ ([] : List (Addr × Obj)) ++ [] from hq) (by simp), e0.hok.kept kp, by rw [List.length_set]; exact I.len⟩
  · have hz : scope.names.lookup z = some .cell ∨ scope.names.lookup z = some .free := hz
    rcases hz with hz | hz
    · exact absurd rfl (L.noc _ (PySem.mem_of_lookup hz))
    · exact look hz
  · have q : false = true := q
    cases q
  · have e3 : Vis scope z := e3
    have e1 : X.N[i]? = some z := e1
    rcases e3 with k | k | k
    · obtain rfl := L.own z k
      obtain rfl := hN i e1
      have lt : i < σ.length := by rw [I.len]; exact (List.getElem?_eq_some_iff.mp hj).1
      rw [List.getElem?_set_self lt] at e2
      cases e2
      exact ⟨v, rx, .inl ⟨k, by simp⟩⟩
    · exact absurd rfl (L.noc _ (PySem.mem_of_lookup k))
    · have ne : i ≠ j := fun q => by
        subst q
        rw [hj] at e1
        cases e1
        rw [L.par] at k; cases k
      rw [List.getElem?_set_ne (Ne.symm ne)] at e2
      obtain ⟨m, hn, hl⟩ := I.loc
      have hvis : Vis X.env.scope z := (L.free _ (PySem.mem_of_lookup k) rfl).elim (fun k => .inr (.inl k)) (fun k => .inr (.inr k))
      obtain ⟨w', r, q⟩ := hl i z w e1 e2 hvis
      obtain ⟨c2, h2⟩ := look k
      refine ⟨w', r, .inr ⟨.inr k, c2, h2, ?_⟩⟩
      have c1 := cm h2
      rcases q with ⟨k', _⟩ | ⟨_, c3, e', q⟩
      · have k' : X.env.scope.names.lookup z = some .local := k'
        rcases L.free _ (PySem.mem_of_lookup k) rfl with k2 | k2 <;> rw [show X.env.scope.names.lookup z = _ from k2] at k' <;> cases k'
      · rw [c1] at e'
        cases e'
        exact cellK q
  · obtain ⟨w', q⟩ := I.cell z c (cm e)
    exact ⟨w', cellK q⟩
  · exact I.freeC z c (cm e)
theorem lam1_call {A : Around} {scope : Scope} {f c' : Addr} {pm ctv : Value} {params : Arguments} {body : Expr} {k : Nat} {y : Str} {v : Value} {x : V} {j : Nat} {tb : TE} {Q : VK}
    (I : Inv X pins σ H s) (sb : L2.Sub X (k + 1) A) (L : LamS1 X.env.scope scope y) (hf : s.heap.get? f = some (PySem.W.kla_obj "<lambda>" (X.env.qual ++ "<lambda>") params body scope (cloFrom X.env.cells scope.names []) pm c' ctv)) (hco : H c' = some (CodeO c' (X.env.qual ++ "<lambda>")))
    (hbind : bindArgs (PySem.W.kla_fn "<lambda>" (X.env.qual ++ "<lambda>") params body scope (cloFrom X.env.cells scope.names []) pm (.ref c') ctv) ⟨[v], []⟩ = pure [(y, v)])
    (hbody : ∀ (A : Around) (s : Shared) (H : Hp), Room k (A.deeper (lamEnv X scope s.heap.objs.size f c')) → PE (lamCx X A X.stack s H C8.E0 scope f c') body tb)
    (rx : RelV x v) (hj : X.N[j]? = some y) (hN : ∀ i, X.N[i]? = some y → i = j) (h : tb (σ.set j (some x)) H Q) :
    wpAny (model X.prog X.w) A (call (.ref f) [v]) (EP X pins σ Q) (fun _ _ => False) s := by
  obtain ⟨⟨oc, vs, t, hoc, hdc, hvc⟩, _, _⟩ := I.hok c' _ hco
  have fr : A.frames = some X.stack := sb.fr.trans I.ok.frames
  have rc : codeAny (model X.prog X.w) A (.call (.ref f) ⟨[v], []⟩) (CR (L2.CX X.prog X.w) X.stack X.prog X.w H s Q C8.E0) s := by
    refine PySem.W.kla_callFunE sb.room.depth hf rfl L.co L.gen rfl ⟨c', oc, vs, t, rfl, hoc, hdc, hvc⟩ ?_
    rw [hbind]
    refine wpAny_pure (wpAny_newFunctionEnv L.noc (fun z hz => by
      obtain rfl := List.mem_singleton.mp hz
      exact L.par) (fun h₁ hns hsb => ⟨I.nolimit.fresh _ hsb, ?_⟩) L.kind)
    show codeAny _ _ (.expr body (lamEnv X scope s.heap.objs.size f c')) _ _
    have kp : ∀ b o, s.heap.get? b = some o → h₁.get? b = some o := fun b o e => hsb.extBut b o (Nat.ne_of_lt (Heap.lt_size e)) (Heap.get?_push_of_some _ e)
    have J := lam1_start (E := C8.E0) (scope := scope) (f := f) (c' := c') (tk := s.toks + ([(y, v)] : List (Str × Value)).length) I L fr sb.room.hd hns kp rx hj hN
    refine PySem.W.kla_codeExpr (wpAny_mono ((hbody A s H (sb.room.deeper _)).run [] _ _ H Q J h) (fun v s' hq => ?_) fun e s' hq => hq)
    obtain ⟨w', H', J', rv, q⟩ := hq
    exact ⟨w', H', J'.os, J'.bare, J'.base, J'.hok, rv, q⟩
  refine wpAny_call (codeAny_mono rc fun r s' hq => ?_)
  cases r with
  | error e =>
    obtain ⟨_, _, _, _, _, _, _, _, _, _, _, _, _, _, z⟩ := hq
  | ok fl =>
    cases fl with
    | ret u => exact I.after hq
    | next => exact False.elim hq
    | brk => exact False.elim hq
    | cont => exact False.elim hq
end
end ZL

namespace ZL
open PySem PySem.Calls PyProof.Rows PySem.W
section
variable {prog : Program} {w : World} {A : Around} {E : Value → Shared → Prop} {s : Shared} {a kS : Addr} {b : Bool} {vs : List Value} {keys : Array Value} {e e1 : Nat} {P : PySem.Fin → Shared → Prop} {kz : List PyData}
def Keeps2 (a c : Addr) (h h' : Heap) : Prop := ∀ b o, b ≠ a → b ≠ c → h.get? b = some o → h'.get? b = some o
theorem keyJ_tail {st : SortSt} {out : List Value} (nk : s.heap.get? kS = some (seqObj "list" keys e)) (na : s.heap.get? a = some (seqObj "list" #[] e1)) (hka : kS ≠ a)
    (hsz : keys.size ≤ sizeLine) (hz : out.length ≤ sizeLine) (hfl : failedOf st = none) (ho : (if b = true then ((arrOf st).map (·.2)).reverse else (arrOf st).map (·.2)) = out.toArray)
    (h : ∀ h' tk c, Keeps2 a kS s.heap h' → h'.get? a = some (seqObj "list" out.toArray c) → P (.done (.ret .none)) { s with heap := h', toks := tk }) :
    wpAny (model prog w) A (ksk_tail a b e1 (.ref kS) st) P E s := by
  have s1 := Heap.SameBut.update s.heap kS (Obj.mapSeq fun _ => (#[] : Array Value))
  have na1 : (s.heap.update kS (Obj.mapSeq fun _ => (#[] : Array Value))).get? a = some (seqObj "list" #[] e1) := (s1.2 a hka.symm).trans na
  have s2 := Heap.SameBut.update (s.heap.update kS (Obj.mapSeq fun _ => (#[] : Array Value))) a (Obj.mapSeq fun _ => out.toArray)
  obtain ⟨c2, hc2⟩ : ∃ c2, ((s.heap.update kS (Obj.mapSeq fun _ => (#[] : Array Value))).update a (Obj.mapSeq fun _ => out.toArray)).get? a = some (seqObj "list" out.toArray c2) :=
    ⟨_, get?_update_seq na1 fun _ => out.toArray⟩
  have hz2 : out.toArray.size ≤ sizeLine + 1 := by
    rw [List.size_toArray]
    exact Nat.le_succ_of_le hz
  unfold ksk_tail
  try dsimp only
  rw [ho]
  refine wpAny_bind (listUpdate_at nk rfl ?_ hsz (Nat.zero_le _))
  refine wpAny_bind (wpAny_letGo ?_)
  refine wpAny_bind (seqEpoch_at na1 rfl ?_)
  refine wpAny_bind (listUpdate_at na1 rfl ?_ (Nat.zero_le _) hz2)
  rw [hfl]
  simp only [bne_self_eq_false, Bool.false_eq_true, if_false]
  exact wpAny_pure (h _ _ c2 (fun c o h1 h2 q => (s2.2 c h1).trans ((s1.2 c h2).trans q)) hc2)
theorem keyJ_end {κ : PyProof.Rows.KeyKind} (nk : s.heap.get? kS = some (seqObj "list" keys e)) (na : s.heap.get? a = some (seqObj "list" #[] e1)) (hka : kS ≠ a)
    (S : SortsAt prog w A s κ keys.toList) (hsz : keys.size = vs.length) (hZ : vs.length ≤ sizeLine)
    (h : ∀ h' tk c, Keeps2 a kS s.heap h' → h'.get? a = some (seqObj "list" (sortVals κ b keys.toList vs).toArray c) → P (.done (.ret .none)) { s with heap := h', toks := tk }) :
    wpAny (model prog w) A (ksk_end a b vs.toArray e1 (.ref kS) keys) P E s := by
  obtain ⟨kd, h1, h2⟩ := S.kind
  have hkl : keys.toList.length = vs.length := by
    rw [Array.length_toList]
    exact hsz
  have hK : PyProof.Rows.KeysOf κ (keys.zip vs.toArray) := keysOf_zip S.keys
  have hol : (sortVals κ b keys.toList vs).length = vs.length := sortVals_length b hkl
  have hstart : (if b = true then (keys.zip vs.toArray).reverse else keys.zip vs.toArray).Perm (keys.zip vs.toArray) := by
    cases b with
    | false => exact Array.Perm.refl _
    | true => exact Array.perm_iff_toList_perm.mpr (by rw [if_pos rfl, Array.toList_reverse]; exact List.reverse_perm _)
  have hss : (if b = true then (keys.zip vs.toArray).reverse else keys.zip vs.toArray).size = vs.length := by rw [hstart.size_eq, Array.size_zip, hsz, List.size_toArray, Nat.min_self]
  have fin : ∀ st' : SortSt, (arrOf st').Perm (if b = true then (keys.zip vs.toArray).reverse else keys.zip vs.toArray) → SortedToK κ (arrOf st') (if b = true then (keys.zip vs.toArray).reverse else keys.zip vs.toArray).size →
      Stable κ (arrOf st') (if b = true then (keys.zip vs.toArray).reverse else keys.zip vs.toArray) → (if b = true then ((arrOf st').map (·.2)).reverse else (arrOf st').map (·.2)) = (sortVals κ b keys.toList vs).toArray := by
    intro st' hp hs ht
    have e := sort_out (rev := b) (keys := keys) (items := vs.toArray) (xs := arrOf st') (κ := κ) hK hp hs ht
    have e' := congrArg List.toArray e
    rw [Array.toArray_toList] at e'
    exact e'
  have step : ∀ t : Sem PySem.Fin, wpAny (model prog w) A t P E s → wpAny (model prog w) A (if b = true then (do let _ ← rule "list.sort.reverse"; t) else t) P E s := by
    intro t ht
    split
    · exact wpAny_bind (wpAny_rule ht)
    · exact ht
  unfold ksk_end
  try dsimp only
  refine step _ ?_
  by_cases hl2 : vs.toArray.size < 2
  · rw [if_pos hl2, if_pos hl2]
    refine wpAny_bind (wpAny_pure ?_)
    rw [StateT.run_pure]
    refine wpAny_bind (wpAny_pure ?_)
    try dsimp only
    refine keyJ_tail (st := SortSt.mk' general' (if b = true then (keys.zip vs.toArray).reverse else keys.zip vs.toArray) #[] 7 none) nk na hka (by rw [hsz]; exact hZ) (by rw [hol]; exact hZ) rfl (fin _ (Array.Perm.refl _) ?_ (Stable.refl _)) h
    intro i j hij hj
    rw [hss] at hj
    rw [List.size_toArray] at hl2
    have : i = j := by omega
    subst this
    exact KeyOrd.kle_refl _
  · rw [if_neg hl2, if_neg hl2]
    rw [List.size_toArray] at hl2
    refine wpAny_bind (h2 (by omega) _ ?_)
    refine wpAny_bind (wpAny_mono (H.wpS_sortRunsSt (κ := κ) (kd := kd) (a₀ := if b = true then (keys.zip vs.toArray).reverse else keys.zip vs.toArray)
      (st := SortSt.mk' kd (if b = true then (keys.zip vs.toArray).reverse else keys.zip vs.toArray) #[] 7 none)
      (Q := fun _ st' => failedOf st' = none ∧ (if b = true then ((arrOf st').map (·.2)).reverse else (arrOf st').map (·.2)) = (sortVals κ b keys.toList vs).toArray)
      h1 (hK.perm hstart) ⟨Array.Perm.refl _, rfl, rfl⟩ rfl (Stable.refl _) (by rw [hss]; omega) fun st' a1 a2 a3 a4 => ⟨a2, fin st' a1 a3 a4⟩) ?_ fun _ _ e => e)
    rintro ⟨⟨⟩, st'⟩ s' ⟨rfl, hf, ho⟩
    try dsimp only at ho ⊢
    exact keyJ_tail nk na hka (by rw [hsz]; exact hZ) (by rw [hol]; exact hZ) hf ho h
theorem keyJ_rest {f : Value} {J : Nat → Array Value → Shared → Prop} (hka : kS ≠ a) (hlen : kz.length = vs.length) (hZ : vs.length ≤ sizeLine) (hal : AllAlike kz) (hsk : PySem.W.Sortable kz) (hu : ∀ d, d ∈ kz → A.units + d.depth < cLine)
    (hst : ∀ i kA s', J i kA s' → ∃ e, s'.heap.get? kS = some (seqObj "list" kA e) ∧ s'.heap.get? a = some (seqObj "list" #[] e1) ∧ kA.size = i)
    (turn : ∀ i v kA s', vs[i]? = some v → J i kA s' → wpAny (model prog w) A (call f [v]) (fun u s'' => ∃ e, s''.heap.get? kS = some (seqObj "list" kA e) ∧ J (i + 1) (kA.push u) { s'' with heap := s''.heap.update kS (Obj.mapSeq (·.push u)) }) (fun _ _ => False) s')
    (fin : ∀ kA s', J vs.length kA s' → EachIs (fun v k => ∃ as, Reads s'.heap v k as) kA.toList kz ∧ ∀ h' tk out c, Keeps2 a kS s'.heap h' → h'.get? a = some (seqObj "list" (List.toArray out) c) → KeyedOut b kz vs out → P (.done (.ret .none)) { s' with heap := h', toks := tk })
    (h0 : J 0 #[] s) : wpAny (model prog w) A (ksk_rest a f b vs.toArray e1 (.ref kS)) P E s := by
  unfold ksk_rest
  refine wpAny_bind (wpAny_rule ?_)
  first
    | rw [List.forIn_toArray]
    | (rw [← Array.forIn_toList]; simp only [List.toList_toArray])
    | rw [← Array.forIn_toList]
  refine wpAny_bind (ksk_fold (fun i s' => ∃ kA, J i kA s') vs 0 s ⟨#[], h0⟩ ?step ?done)
  case step =>
    rintro j x s' hx ⟨kA, hJ⟩
    simp only [Nat.zero_add] at hJ ⊢
    have hj : j < vs.length := (List.getElem?_eq_some_iff.mp hx).1
    obtain ⟨e, nk', na', hz⟩ := hst _ _ _ hJ
    refine wpAny_bind (wpAny_attempt (wpAny_mono (turn j x kA s' hx hJ) (fun v s'' he => ?_) fun _ _ hF => hF.elim))
    obtain ⟨e2, nk2, hJ2⟩ := he
    try dsimp only
    refine wpAny_bind (listUpdate_at nk2 rfl ?_ (by omega) (Nat.le_trans (Nat.le_of_eq (Array.size_push ..)) (by omega)))
    exact wpAny_pure ⟨rfl, kA.push v, hJ2⟩
  case done =>
    rintro s' ⟨kA, hJ⟩
    rw [Nat.zero_add] at hJ
    obtain ⟨e, nk', na', hz⟩ := hst _ _ _ hJ
    obtain ⟨hk', fin⟩ := fin _ _ hJ
    try dsimp only
    refine wpAny_bind (listItems_at nk' rfl ?_)
    exact keyJ_end (κ := dataKind s'.heap kz) nk' na' hka (SortsAt.data hk' hal hsk hu) hz hZ fun h3 tk3 c k3 n3 => fin h3 tk3 _ c k3 n3 ⟨s'.heap, kA.toList, hal, rfl, hk'⟩
end
end ZL

namespace ZL
open PySem PySem.Spec PyProof.Rows L2 LamX
inductive KeyV (K : PySem.W.Frag) (H : Hp) : V → PyData → Prop
  | bl (b : Bool) : KeyV K H (.bl b) (.bool b)
  | int (i : Int) : KeyV K H (.int i) (.int i)
  | str (x : Str) : KeyV K H (.str x) (.str x)
  | tup2 {a : Addr} {x y : V} {k l : PyData} : SqT K H a [x, y] → KeyV K H x k → KeyV K H y l → KeyV K H (.ref a) (.tuple [k, l])
inductive KeyVs (K : PySem.W.Frag) (H : Hp) : List V → List PyData → Prop
  | nil : KeyVs K H [] []
  | cons {v : V} {k : PyData} {vs : List V} {ks : List PyData} : KeyV K H v k → KeyVs K H vs ks → KeyVs K H (v :: vs) (k :: ks)
section
variable {K : PySem.W.Frag} {H H' : Hp}
def ExtT (H H' : Hp) : Prop := ∀ b o, H b = some o → (∀ ps, o ≠ .tbl ps) → (∀ xs, o ≠ .lst xs) → H' b = some o
theorem sqT_ext {a : Addr} {xs : List V} (h : SqT K H a xs) (e : ExtT H H') : SqT K H' a xs := by
  rcases h with (h | ⟨o, h⟩) | h
  · exact .inl (.inl (e _ _ h (fun ps z => by cases z) fun ps z => by cases z))
  · exact .inl (.inr ⟨o, e _ _ h (fun ps z => by cases z) fun ps z => by cases z⟩)
  · exact .inr h
theorem codeO_nl {c : Addr} {q : Str} (xs : List V) : CodeO c q ≠ .lst xs := fun z => by
  unfold CodeO at z
  cases z
theorem KeyV.ext {v : V} {k : PyData} (h : KeyV K H v k) (e : ExtT H H') : KeyV K H' v k := by
  induction h with
  | bl b => exact .bl b
  | int i => exact .int i
  | str x => exact .str x
  | tup2 s _ _ i1 i2 => exact .tup2 (sqT_ext s e) i1 i2
theorem KeyVs.ext {vs : List V} {ks : List PyData} (h : KeyVs K H vs ks) (e : ExtT H H') : KeyVs K H' vs ks := by
  induction h with
  | nil => exact .nil
  | cons h1 _ ih => exact .cons (h1.ext e) ih
theorem KeyVs.snoc {v : V} {k : PyData} (h1 : KeyV K H v k) : ∀ {vs : List V} {ks : List PyData}, KeyVs K H vs ks → KeyVs K H (vs ++ [v]) (ks ++ [k])
  | _, _, .nil => .cons h1 .nil
  | _, _, .cons h t => .cons h (KeyVs.snoc h1 t)
end
section
variable {X : Cx} {pins : List (Addr × Obj)} {σ : L2.St} {H : Hp} {s : Shared}
theorem KeyV.reads {v : V} {k : PyData} {u : Value} (h : KeyV X.K H v k) (I : Inv X pins σ H s) (r : RelV v u) : ∃ as, Reads s.heap u k as := by
  induction h generalizing u with
  | bl b => obtain rfl : u = .bool b := r; exact ⟨_, .bool b⟩
  | int i => obtain ⟨t, rfl⟩ : ∃ t, u = .int i t := r; exact ⟨_, .int i t⟩
  | str x => obtain ⟨t, rfl⟩ : ∃ t, u = .str x t := r; exact ⟨_, .str x t⟩
  | @tup2 a x y k l sq _ _ i1 i2 =>
    obtain rfl : u = .ref a := r
    obtain ⟨its, rv, ⟨o, ho, hc, n, hd⟩, _⟩ := I.tuple sq
    cases rv with
    | cons r1 rv => cases rv with
      | cons r2 rv =>
        cases rv
        obtain ⟨as, h1⟩ := i1 r1
        obtain ⟨bs, h2⟩ := i2 r2
        exact ⟨_, .tuple ho hc hd (.cons h1 (.cons h2 .nil))⟩
theorem KeyVs.reads (I : Inv X pins σ H s) : ∀ {vs : List V} {ks : List PyData} {us : List Value}, KeyVs X.K H vs ks → Vals vs us → PySem.W.EachIs (fun v k => ∃ as, Reads s.heap v k as) us ks
  | _, _, _, .nil, .nil => .nil
  | _, _, _, .cons h t, .cons r rs => .cons (h.reads I r) (KeyVs.reads I t rs)
theorem adopt {h' : Heap} {t' : Nat} {ch : List Addr} {T : Addr} {ob : HO} (I : Inv X pins σ H s) (k : ∀ b o, b ∉ ch → s.heap.get? b = some o → h'.get? b = some o) (hf : ∀ b ∈ ch, FpOk X pins H b) (hT : T ∈ ch)
    (new : ObjOk X.prog X.w (upd H T ob) h' T ob) : Inv X pins σ (upd H T ob) { s with heap := h', toks := t' } := by
  have hn : H T = none := (hf T hT).1
  have nit : ∀ b u, H b = some u → b ∉ ch := fun b u e z => by
    have q := (hf b z).1
    rw [q] at e; cases e
  refine I.step (g' := s.gens) (d' := s.drawn) (ch := ch) (fun b hb => ⟨(hf b hb).2.2.2.1, (hf b hb).2.1, (hf b hb).2.2.2.2.1, (hf b hb).2.2.2.2.2⟩) (fun b o _ _ hc e _ => k b o hc e) (fun b o _ _ hc e _ => ⟨o.slots, k b o hc e⟩)
    (fun b o hc e n => ?_) (fun b o hc e => ⟨o, k b o hc e⟩) (fun b xs e => ?_) (fun b o u e => ?_) (fun b ps e => ⟨#[], ?_⟩) (fun m hm => ?_) (fun b u e => ?_) I.bare
  · rw [upd_ne (fun z : b = T => hc (by rw [z]; exact hT))]; exact n
  · rw [upd_ne (ne_of_none e hn)]; exact e
  · rw [upd_ne (ne_of_none e hn)]; exact e
  · rw [upd_ne (ne_of_none e hn), e]; simp
  · obtain ⟨o, es, ep, ho, r⟩ := hm
    exact ⟨o, es, ep, k _ o (fun z => (hf _ z).2.1 rfl) ho, r⟩
  · by_cases hb : b = T
    · subst hb
      rw [upd_same] at e
      cases e
      exact new
    · rw [upd_ne hb] at e
      refine (I.hok b u e).stay (fun c v hc q => k c v ?_ q) (fun c q => by rw [upd_ne (ne_of_none q hn)]; exact q) fun c xs q => by rw [upd_ne (ne_of_none q hn)]; exact q
      rcases hc with z | z
      · rw [z]; exact nit b u e
      · exact nit c _ z
theorem fp_next {H' : Hp} {b : Addr} (h : FpOk X pins H b) (n : H' b = none) : FpOk X pins H' b := ⟨n, h.2⟩
theorem vals_snoc {v : V} {u : Value} (r : RelV v u) : ∀ {vs : List V} {us : List Value}, Vals vs us → Vals (vs ++ [v]) (us ++ [u])
  | _, _, .nil => .cons r .nil
  | _, _, .cons h t => .cons h (vals_snoc r t)
theorem each_zip : ∀ {xs : List V} {vs : List Value} {ks : List PyData}, Vals xs vs → ks.length = xs.length → PySem.W.EachIs (fun v (p : V × PyData) => RelV p.1 v) vs (xs.zip ks)
  | _, _, [], .nil, _ => .nil
  | _, _, k :: ks, .cons r t, h => .cons r (each_zip t (by simpa using h))
theorem zip_snd : ∀ {xs : List V} {ks : List PyData}, ks.length = xs.length → (xs.zip ks).map Prod.snd = ks
  | [], [], _ => rfl
  | [], k :: ks, h => by simp at h
  | x :: xs, [], h => by simp at h
  | x :: xs, k :: ks, h => by rw [List.zip_cons_cons, List.map_cons, zip_snd (by simpa using h)]
theorem each_vals : ∀ {out : List Value} {ps : List (V × PyData)}, PySem.W.EachIs (fun v (p : V × PyData) => RelV p.1 v) out ps → Vals (ps.map Prod.fst) out
  | _, _, .nil => .nil
  | _, _, .cons h t => .cons h (each_vals t)
theorem vals_at : ∀ {xs : List V} {us : List Value} {i : Nat} {u : Value}, Vals xs us → us[i]? = some u → ∃ x, xs[i]? = some x ∧ RelV x u
  | _, _, _, _, .nil, e => by simp at e
  | _, _, 0, _, .cons r _, e => by simp at e; subst e; exact ⟨_, rfl, r⟩
  | _, _, i + 1, u, .cons _ t, e => by
    obtain ⟨x, h1, h2⟩ := vals_at (i := i) t (by simpa using e)
    exact ⟨x, by simpa using h1, h2⟩
noncomputable def srtV (xs : List V) (ks : List PyData) : List V := ((xs.zip ks).mergeSort (PySem.W.dataLe false Prod.snd)).map Prod.fst
theorem srtV_len {xs : List V} {ks : List PyData} (h : ks.length = xs.length) : (srtV xs ks).length = xs.length := by
  unfold srtV
  rw [List.length_map, List.length_mergeSort, List.length_zip, h, Nat.min_self]
theorem srt_call {T : List (Addr × Str)} {scope : Scope} {l f c' : Addr} {pm ctv : Value} {params : Arguments} {body : Expr} {k : Nat} {y : Str} {j : Nat} {tb : TE} {Q : VK} {xs : List V} {ks : List PyData} {R : Hp → Hp → Prop} (hR0 : R H H) (hRt : ∀ {H1 H2 H3 : Hp}, R H1 H2 → R H2 H3 → R H1 H3) (hRe : ∀ {H1 H2 : Hp}, R H1 H2 → ExtT H1 H2)
    (I : Inv X pins σ H s) (hr : Room (k + 3) X.A) (hl : SqL X.K H l xs) (hks : ks.length = xs.length) (hal : PySem.W.AllAlike ks) (hsk : PySem.W.Sortable ks) (hu : ∀ d ∈ ks, X.A.units + 2 + d.depth < cLine) (L : LamS1 X.env.scope scope y)
    (hf : s.heap.get? f = some (PySem.W.kla_obj "<lambda>" (X.env.qual ++ "<lambda>") params body scope (cloFrom X.env.cells scope.names []) pm c' ctv)) (hfn : H f = none) (hfr : f ∉ frs X.stack) (hco : H c' = some (CodeO c' (X.env.qual ++ "<lambda>")))
    (hbind : ∀ v : Value, bindArgs (PySem.W.kla_fn "<lambda>" (X.env.qual ++ "<lambda>") params body scope (cloFrom X.env.cells scope.names []) pm (.ref c') ctv) ⟨[v], []⟩ = pure [(y, v)])
    (hbody : ∀ (A : Around) (s : Shared) (H : Hp), Room k (A.deeper (lamEnv X scope s.heap.objs.size f c')) → PE (lamCx X A X.stack s H C8.E0 scope f c') body tb)
    (hj : X.N[j]? = some y) (hN : ∀ i, X.N[i]? = some y → i = j) (hT : Tabs T H)
    (turn : ∀ (i : Nat) (x : V) (d : PyData) (H' : Hp), xs[i]? = some x → ks[i]? = some d → R H H' → Tabs T H' → tb (σ.set j (some x)) H' fun v H'' => R H' H'' ∧ Tabs T H'' ∧ KeyV X.K H'' v d)
    (cont : ∀ D H', R H H' → Tabs T H' → H D = none → H' D = none → Q (.ref D) (upd H' D (.lst (srtV xs ks)))) :
    wpAny (model X.prog X.w) X.A (call (.builtin "sorted") [.ref l] [(Str.ofString "key", .ref f)]) (EP X pins σ Q) X.xe s := by
  obtain ⟨vs, rv, pl, hZ0⟩ := I.list hl
  have hlen := Vals.length rv
  have hZ : vs.length ≤ sizeLine := by rw [← hlen]; exact hZ0
  have szc : (PySem.W.copyHeap s.heap vs).objs.size = s.heap.objs.size + 2 := by
    show (((s.heap.push _).update _ _).push _).objs.size = _
    rw [size_push', Heap.size_update, size_push']
  -- the lambda is pinned
  have hfL : f ≠ X.env.locals := fun z => by
    obtain ⟨m, ⟨o, es, ep, ho, r⟩, _⟩ := I.loc
    rw [← z, hf] at ho
    have := r
    cases ho
    simp at r
  have hfF : f ∉ X.fs := fun z => hfr (by
    rcases I.ok.stk with e | ⟨e, _⟩
    · rw [e]; exact z
    · rw [e]; unfold frs; rw [List.filterMap_cons]
      split
      · exact z
      · exact List.mem_cons_of_mem _ z)
  let fo : Obj := PySem.W.kla_obj "<lambda>" (X.env.qual ++ "<lambda>") params body scope (cloFrom X.env.cells scope.names []) pm c' ctv
  have I1 : Inv X ((f, fo) :: pins) σ H s := I.pins_of fun p hp => by
    rcases List.mem_cons.mp hp with rfl | hp
    · exact ⟨hf, hfn, hfL, hfF, fun v z => by cases z⟩
    · exact I.pin p (List.mem_append_right _ hp)
  have na0 : H (s.heap.objs.size + 1) = none := I.hok.fresh (Nat.le_succ _)
  have fpa := I1.fpOk (H' := H) (b := s.heap.objs.size + 1) (Nat.le_succ _) na0
  -- the sort
  refine PySem.W.sorted_of_sort pl.isList hZ (PyProof.Rows.ksk_s1 _ _) (fun _ => PyProof.Rows.ksk_l1 _ _) fun E' => ?_
  rw [PyProof.Rows.ksk_t1]
  have ho := PySem.W.copyHeap_at s.heap vs
  obtain ⟨e1, ho1⟩ : ∃ e1, ((PySem.W.copyHeap s.heap vs).update (s.heap.objs.size + 1) (Obj.mapSeq fun _ => (#[] : Array Value))).get? (s.heap.objs.size + 1) = some (seqObj "list" #[] e1) := ⟨_, get?_update_seq ho fun _ => #[]⟩
  unfold ksk_tree
  refine wpAny_bind (listItems_at ho rfl ?_)
  refine wpAny_bind (listUpdate_at ho rfl ?_ (by rw [List.size_toArray]; exact hZ) (Nat.zero_le _))
  refine wpAny_bind (seqEpoch_at ho1 rfl ?_)
  refine wpAny_bind (wpAny_newTuple ?_ (by show vs.length ≤ _; exact hZ))
  refine wpAny_bind (wpAny_newList ?_ (Nat.zero_le _))
  refine wpAny_holding ?_
  have keep : ∀ b u, s.heap.get? b = some u → ((((PySem.W.copyHeap s.heap vs).update (s.heap.objs.size + 1) (Obj.mapSeq fun _ => (#[] : Array Value))).push (seqObj "tuple" vs.toArray 0)).push (seqObj "list" #[] 0)).get? b = some u := fun b u e =>
    PySem.W.sortingHeap_old (Nat.ne_of_lt (Nat.lt_succ_of_lt (Heap.lt_size e))) (PySem.W.copyHeap_old e)
  have szk : (((PySem.W.copyHeap s.heap vs).update (s.heap.objs.size + 1) (Obj.mapSeq fun _ => (#[] : Array Value))).push (seqObj "tuple" vs.toArray 0)).objs.size = s.heap.objs.size + 3 := by
    rw [size_push', Heap.size_update, szc]
  have hkS : ((((PySem.W.copyHeap s.heap vs).update (s.heap.objs.size + 1) (Obj.mapSeq fun _ => (#[] : Array Value))).push (seqObj "tuple" vs.toArray 0)).push (seqObj "list" #[] 0)).get? (((PySem.W.copyHeap s.heap vs).update (s.heap.objs.size + 1) (Obj.mapSeq fun _ => (#[] : Array Value))).push (seqObj "tuple" vs.toArray 0)).objs.size = some (seqObj "list" #[] 0) := Heap.get?_push_size _ rfl
  have ha3 : ((((PySem.W.copyHeap s.heap vs).update (s.heap.objs.size + 1) (Obj.mapSeq fun _ => (#[] : Array Value))).push (seqObj "tuple" vs.toArray 0)).push (seqObj "list" #[] 0)).get? (s.heap.objs.size + 1) = some (seqObj "list" #[] e1) := Heap.get?_push_of_some _ (Heap.get?_push_of_some _ ho1)
  have gek : s.heap.objs.size ≤ (((PySem.W.copyHeap s.heap vs).update (s.heap.objs.size + 1) (Obj.mapSeq fun _ => (#[] : Array Value))).push (seqObj "tuple" vs.toArray 0)).objs.size := by rw [szk]; omega
  have hka : (((PySem.W.copyHeap s.heap vs).update (s.heap.objs.size + 1) (Obj.mapSeq fun _ => (#[] : Array Value))).push (seqObj "tuple" vs.toArray 0)).objs.size ≠ s.heap.objs.size + 1 := by rw [szk]; omega
  generalize ((((PySem.W.copyHeap s.heap vs).update (s.heap.objs.size + 1) (Obj.mapSeq fun _ => (#[] : Array Value))).push (seqObj "tuple" vs.toArray 0)).push (seqObj "list" #[] 0)) = h3 at keep hkS ha3 ⊢
  generalize (((PySem.W.copyHeap s.heap vs).update (s.heap.objs.size + 1) (Obj.mapSeq fun _ => (#[] : Array Value))).push (seqObj "tuple" vs.toArray 0)).objs.size = kS at hkS gek hka ⊢
  have nk0 : H kS = none := I.hok.fresh gek
  have fpk := I1.fpOk (H' := H) (b := kS) gek nk0
  generalize ea : s.heap.objs.size + 1 = a at *
  have sub : ∀ {H' : Hp} {s' : Shared} {q : List (Addr × Obj)}, Inv X (q ++ (f, fo) :: pins) σ H' s' → Inv X ((f, fo) :: pins) σ H' s' := fun J => J.pins_of fun p hp => J.pin p (List.mem_append_right _ (List.mem_append_right _ hp))
  refine keyJ_rest (kz := ks) (kS := kS) (a := a) (J := fun i kA s' => ∃ (H' : Hp) (e : Nat) (ys : List V), Inv X ((f, fo) :: pins) σ H' s' ∧ s'.heap.get? kS = some (seqObj "list" kA e) ∧ s'.heap.get? a = some (seqObj "list" #[] e1) ∧ H' kS = none ∧ H' a = none ∧ R H H' ∧ Tabs T H' ∧ kA.size = i ∧ Vals ys kA.toList ∧ KeyVs X.K H' ys (ks.take i))
    hka (hks.trans hlen) hZ hal hsk (fun d hd => hu d hd) (fun i kA s' ⟨H', e, ys, _, k1, k2, _, _, _, _, hz, _⟩ => ⟨e, k1, k2, hz⟩) (fun i v kA s' hv hJ => ?_) (fun kA s' hJ => ?_) ⟨H, 0, [], I1.kept keep, hkS, ha3, nk0, na0, hR0, hT, rfl, .nil, .nil⟩
  · obtain ⟨H', e, ys, I', k1, k2, n1, n2, eN, T', hz, ry, ky⟩ := hJ
    obtain ⟨x, hx, rx⟩ := vals_at rv hv
    have hi : i < ks.length := by rw [hks]; exact (List.getElem?_eq_some_iff.mp hx).1
    have hd : ks[i]? = some ks[i] := List.getElem?_eq_getElem hi
    generalize ks[i] = d at hd
    have I2 : Inv X ([(a, seqObj "list" #[] e1), (kS, seqObj "list" kA e)] ++ (f, fo) :: pins) σ H' s' := I'.pins_of fun p hp => by
      rcases List.mem_cons.mp hp with rfl | hp
      · exact ⟨k2, n2, fpa.2.1, fpa.2.2.1, fun v z => by cases z⟩
      · rcases List.mem_cons.mp hp with rfl | hp
        · exact ⟨k1, n1, fpk.2.1, fpk.2.2.1, fun v z => by cases z⟩
        · exact I'.pin p (List.mem_append_right _ hp)
    have hf2 := (I'.pin (f, fo) (List.mem_append_right _ (List.mem_cons_self ..))).1
    refine wpAny_mono (lam1_call I2 ⟨hr.in1.in1, rfl⟩ L hf2 (hRe eN _ _ hco codeO_ne codeO_nl) (hbind v) hbody rx hj hN (turn i x d H' hx hd eN T')) (fun u s2 ⟨yv, H2, J2, ry2, e2, T2, kv⟩ => ?_) fun _ _ z => z
    have p2 := (J2.pin (kS, seqObj "list" kA e) (List.mem_append_right _ (List.mem_append_left _ (List.mem_cons_of_mem _ (List.mem_cons_self ..)))))
    have p1 := (J2.pin (a, seqObj "list" #[] e1) (List.mem_append_right _ (List.mem_append_left _ (List.mem_cons_self ..))))
    have s1 := Heap.SameBut.update s2.heap kS (Obj.mapSeq (·.push u))
    obtain ⟨c2, hc2⟩ : ∃ c2, (s2.heap.update kS (Obj.mapSeq (·.push u))).get? kS = some (seqObj "list" (kA.push u) c2) := ⟨_, get?_update_seq p2.1 (·.push u)⟩
    have J3 := (sub J2).turnedL (t' := s2.toks) (ch := [kS]) (h' := s2.heap.update kS (Obj.mapSeq (·.push u))) (fun b o hb q => (s1.2 b (fun z => hb (by rw [z]; exact List.mem_cons_self ..))).trans q) (fun b hb => by
      obtain rfl := List.mem_singleton.mp hb
      exact fp_next fpk p2.2.1)
    have et : ks.take (i + 1) = ks.take i ++ [d] := by rw [List.take_add_one, hd]; rfl
    refine ⟨e, p2.1, H2, c2, ys ++ [yv], J3, hc2, (s1.2 a hka.symm).trans p1.1, p2.2.1, p1.2.1, hRt eN e2, T2, by rw [Array.size_push, hz], ?_, ?_⟩
    · rw [show (kA.push u).toList = kA.toList ++ [u] by simp]
      exact vals_snoc ry2 ry
    · rw [et]
      exact KeyVs.snoc kv (ky.ext (hRe e2))
  · obtain ⟨H', e, ys, I', k1, k2, n1, n2, eN, T', hz, ry, ky⟩ := hJ
    rw [List.take_of_length_le (by omega)] at ky
    refine ⟨KeyVs.reads I' ky ry, fun h' tk out c kp hD ko => ⟨rfl, ?_⟩⟩
    have eo := PySem.W.keyedOut_each Prod.snd (bs := xs.zip ks) (by rw [zip_snd hks]; exact ko) (each_zip rv hks)
    have vo : Vals (srtV xs ks) out := each_vals eo
    have I5 := adopt (t' := tk) (h' := h') (ch := [a, kS]) (T := a) (ob := .lst (srtV xs ks)) I' (fun b o hb q => kp b o (fun z => hb (by rw [z]; exact List.mem_cons_self ..)) (fun z => hb (by rw [z]; exact List.mem_cons_of_mem _ (List.mem_cons_self ..))) q) (fun b hb => by
      rcases List.mem_cons.mp hb with rfl | hb
      · exact fp_next fpa n2
      · obtain rfl := List.mem_singleton.mp hb
        exact fp_next fpk n1) (List.mem_cons_self ..) ⟨by rw [srtV_len hks]; exact hZ0, out, c, vo, hD⟩
    exact ⟨.ref a, _, I5.pins_of fun p hp => I5.pin p (List.mem_append_right _ (List.mem_cons_of_mem _ hp)), rfl, cont a H' eN T' na0 n2⟩
end
end ZL

namespace ZL
open PySem PySem.Spec PyProof.Rows L2 LamX
def srtB (K : PySem.W.Frag) (T : List (Addr × Str)) (j : Nat) (tb : TE) (σ : L2.St) (Q : VK) (l : V) (H1 : Hp) : Prop := ∃ (a : Addr) (xs : List V) (ks : List PyData) (R : Hp → Hp → Prop), l = .ref a ∧ SqL K H1 a xs ∧ ks.length = xs.length ∧ PySem.W.AllAlike ks ∧ PySem.W.Sortable ks ∧ (∀ d ∈ ks, d.depth ≤ 2) ∧
  Tabs T H1 ∧ (∀ {H2}, R H1 H2 → R H2 H2) ∧ (∀ {H1 H2 H3}, R H1 H2 → R H2 H3 → R H1 H3) ∧ (∀ {H1 H2}, R H1 H2 → ExtT H1 H2) ∧ (∀ {H2}, ExtN H1 H2 → Tabs T H2 → R H1 H2) ∧
  (∀ (i : Nat) (x : V) (d : PyData) (H' : Hp), xs[i]? = some x → ks[i]? = some d → R H1 H' → Tabs T H' → tb (σ.set j (some x)) H' fun v H'' => R H' H'' ∧ Tabs T H'' ∧ KeyV K H'' v d) ∧
  ∀ D H', R H1 H' → Tabs T H' → H' D = none → Q (.ref D) (upd H' D (.lst (srtV xs ks)))
def tSrtK (K : PySem.W.Frag) (T : List (Addr × Str)) (j : Nat) (ta tb : TE) : TE := fun σ H Q => ta σ H (srtB K T j tb σ Q)
theorem sqL_ext {K : PySem.W.Frag} {H H' : Hp} {a : Addr} {xs : List V} (h : SqL K H a xs) (e : ExtN H H') : SqL K H' a xs := by
  rcases h with (h | ⟨o, h⟩) | h
  · exact .inl (.inl (e _ _ h fun ps z => by cases z))
  · exact .inl (.inr ⟨o, e _ _ h fun ps z => by cases z⟩)
  · exact .inr h
def srtB1 (K : PySem.W.Frag) (T : List (Addr × Str)) (j : Nat) (tb : TE) (σ : L2.St) (Q : VK) : List V → Hp → Prop
  | [l], H1 => srtB K T j tb σ Q l H1
  | _, _ => False
theorem srtB_at {K : PySem.W.Frag} {T : List (Addr × Str)} {j : Nat} {tb : TE} {σ : L2.St} {Q : VK} {vs : List V} {H : Hp} (h : srtB1 K T j tb σ Q vs H) : ∃ v, vs = [v] ∧ srtB K T j tb σ Q v H := by
  match vs, h with
  | [v], h => exact ⟨v, rfl, h⟩
theorem vals_one {v : V} {us : List Value} (h : Vals [v] us) : ∃ u, us = [u] ∧ RelV v u := by
  cases h with
  | cons r t => cases t; exact ⟨_, rfl, r⟩
theorem kw_all {e : Expr} {env : Env} {pos kpos : Pos} : (backToKw pos (keywordEach [⟨some "key", e, kpos⟩] env)).all (·.1.isSome) = true := by rfl
theorem kw_none {e : Expr} {env : Env} {pos kpos : Pos} : (backToKw pos (keywordEach [⟨some "key", e, kpos⟩] env)).any (·.1.isNone) = false := by rfl
section
variable {X : Cx}
theorem pe_srtK {T : List (Addr × Str)} {c P : Addr} {k : Nat} {params : Arguments} {body e : Expr} {scope : Scope} {y : Str} {j : Nat} {ta tb : TE} {p kpos lpos pos : Pos} (hg : Gl X "sorted") (hm : X.mg "sorted" = none) (ha : PE X e ta)
    (TB : TabB X.base X.mg c P) (hcode : X.env.code = .ref c) (hmT : (P, X.env.qual ++ "<lambda>") ∈ T) (hu : ∀ p ∈ T, p.1 = P → p.2 = X.env.qual ++ "<lambda>") (hr : Room (k + 3) X.A) (L : LamS1 X.env.scope scope y) (hdef : defaultsOf params X.env = ([], []))
    (hbind : ∀ (q : Str) (cl : List (Str × Addr)) (pm cv ctv v : Value), bindArgs (PySem.W.kla_fn "<lambda>" q params body scope cl pm cv ctv) ⟨[v], []⟩ = pure [(y, v)])
    (hbody : ∀ (A : Around) (s : Shared) (H : Hp) (f c' : Addr), Room k (A.deeper (lamEnv X scope s.heap.objs.size f c')) → PE (lamCx X A X.stack s H C8.E0 scope f c') body tb)
    (hj : X.N[j]? = some y) (hN : ∀ i, X.N[i]? = some y → i = j)
    (hs : starEach [e] X.env = (false, eval e X.env) :: starEach [] X.env := by rfl) (he : backTo pos (starEach [e] X.env) = (false, eval e X.env) :: backTo pos (starEach [] X.env) := by rfl) (hpl : (backTo pos (starEach [e] X.env)).any (·.1) = false := by rfl) :
    PE X (.Call (.Name "sorted" p) [e] [⟨some "key", .Lambda params body scope lpos, kpos⟩] pos) (tSrtK X.K T j ta tb) := by
  refine ⟨fun pins s σ H Q I h => ?_⟩
  refine wpAny_Call_Name_kw (ld_blt I hg hm (u := .builtin "sorted") (by rfl) ?_)
  refine PyProof.Rows.callWith_kw (thn ((pa_cons ha pa_nil hs).run pos pins s σ H (srtB1 X.K T j tb σ Q) I h) fun us s1 ⟨vs, H1, I1, r1, q1⟩ => ?_) he hpl kw_all kw_none
  obtain ⟨v, rfl, q1⟩ := srtB_at q1
  obtain ⟨u, rfl, ru⟩ := vals_one r1
  · clear h hs he hpl ha
    obtain ⟨a, xs, ks, R, rfl, hl, hks, hal, hsk, hdp, hT, R0, Rt, Re, Rn, turn, cont⟩ := q1
    obtain rfl : u = .ref a := ru
    show wpAny _ _ (evalAll ((do let v ← eval (.Lambda params body scope lpos) X.env; standAt pos; pure v) :: [])) _ _ s1
    refine wpAny_evalAll_cons (wpAny_bind (lam_make2 I1 TB hcode hmT hu hT hdef (L.has I1.ok) fun f c' pm ctv H2 s2 I2 eN T2 hf hfn hfr hco => wpAny_bind (wpAny_standAt (wpAny_pure (wpAny_evalAll_nil ?_)))))
    show wpAny _ _ (call (.builtin "sorted") [.ref a] [(Str.ofString "key", .ref f)]) _ _ _
    exact srt_call (R := R) (R0 (Rn eN T2)) Rt Re I2 hr (sqL_ext hl eN) hks hal hsk (fun d hd => by have h1 := hdp d hd; have h2 := hr.un; refine Nat.lt_of_le_of_lt ?_ h2; clear h2; omega) L hf hfn hfr hco (fun v => hbind _ _ _ _ _ v) (fun A s H hr2 => hbody A s H f c' hr2) hj hN T2
      (fun i x d H' hx hd hR T' => turn i x d H' hx hd (Rt (Rn eN T2) hR) T') (fun D H' hR T' _ n => cont D H' (Rt (Rn eN T2) hR) T' n)
end
end ZL

namespace ZL
open PySem PySem.Spec PyProof.Rows L2 LamX
def LamF (base : Heap) (mg : Str → Option Value) (T : List (Addr × Str)) (fd : FuncData) (q : Str) : Prop := ∃ c0 P0 : Addr, fd.code = .ref c0 ∧ TabB base mg c0 P0 ∧ (P0, (q ++ ".<locals>.") ++ "<lambda>") ∈ T ∧ ∀ p ∈ T, p.1 = P0 → p.2 = (q ++ ".<locals>.") ++ "<lambda>"
theorem at_inj {N : List Str} {y : Str} {j : Nat} (nd : N.Nodup) (h : N[j]? = some y) : ∀ i, N[i]? = some y → i = j := fun i e => by
  obtain ⟨l1, e1⟩ := List.getElem?_eq_some_iff.mp e
  obtain ⟨l2, e2⟩ := List.getElem?_eq_some_iff.mp h
  by_cases q : i = j
  · exact q
  · exact absurd (e1.trans e2.symm) (by
      have := List.pairwise_iff_getElem.mp nd
      rcases Nat.lt_or_gt_of_ne q with h1 | h1
      · exact this i j l1 l2 h1
      · exact fun z => this j i l2 l1 h1 z.symm)
theorem hu_of {T : List (Addr × Str)} {P : Addr} {q : Str} (nd : (T.map (·.1)).Nodup) (h : (P, q) ∈ T) : ∀ p ∈ T, p.1 = P → p.2 = q := fun p hp e => by
  induction T with
  | nil => cases h
  | cons z T ih =>
    rw [List.map_cons, List.nodup_cons] at nd
    rcases List.mem_cons.mp h with h | h <;> rcases List.mem_cons.mp hp with hp | hp
    · rw [hp, ← h]
    · refine absurd ?_ nd.1
      rw [← h, show ((P, q) : Addr × Str).1 = P from rfl, ← e]
      exact List.mem_map_of_mem (f := (·.1)) hp
    · refine absurd ?_ nd.1
      rw [← hp, e]
      exact List.mem_map_of_mem (f := (·.1)) h
    · exact ih nd.2 h hp
def codeTail (vs : Array Value) (c P : Addr) : Bool := (match (vs[11]? : Option Value) with | some (.ref P') => P' == P | _ => false) &&
  (match vs.getD 18 .none with | .str _ _ => true | _ => false) && (match vs.getD 7 .none with | .int _ _ => true | _ => false) &&
  (match vs.getD 9 .none with | .bool _ => true | _ => false) && (match vs.getD 10 .none with | .int _ _ => true | _ => false) && c != P
theorem codeHd_at {K : PySem.W.Frag} {h : Heap} {c P : Addr} {dd : Option Addr} {vs : Array Value} {ss : Array (Option Value)} (X : K.In h) (hl : K.lookup c = some ⟨.type "code", dd, .fields vs, ss⟩) (ht : codeTail vs c P = true) : PySem.W.CodeHd h c P := by
  refine PySem.W.codeHd_of_K X ?_
  unfold PySem.W.codeHdIn
  rw [hl]
  exact ht
section
variable {P : Program} {w : World} {K : PySem.W.Frag} {mg : Str → Option Value} {base : Heap}
theorem okL {T : List (Addr × Str)} {x qual : Str} {st : Stmt} {f : Addr} {fd : FuncData} {N ps : List Str} {k : Nat} {sp : Sp} (F : Fun K x qual st f fd) (L : LamF base mg T fd qual) (S : FnScope N ps (defScope st)) (len : ∀ vs H Q E, sp vs H Q E → vs.length = ps.length)
    (hbody : ∀ (c0 P0 : Addr) (TB : TabB base mg c0 P0) (hm : (P0, (qual ++ ".<locals>.") ++ "<lambda>") ∈ T) (hu : ∀ p ∈ T, p.1 = P0 → p.2 = (qual ++ ".<locals>.") ++ "<lambda>") (A : Around) (outer : List Env) (s : Shared) (H : Hp) (vs : List V) (Q : VK) (E : XK), Room k (A.deeper (envOfC qual (defScope st) s.heap.objs.size f (.ref c0))) → sp vs H Q E →
      ∃ t, PSs (cxOf CX0 P w K mg base N qual (defScope st) f (.ref c0) A outer s H E).nox (defBody st) t ∧ t { nx := fun _ H' => Q .non H', rt := Q } (start N vs) H) : FnOk P w K mg base CX0 (k + 1) f fd ps sp := by
  obtain ⟨c0, P0, hc, TB, hm, hu⟩ := L
  obtain ⟨oc, od, kV, doc, pm, an, cdv, ct, osl, rfl, lk, hcd⟩ := F.ex
  have hc : cdv = .ref c0 := hc
  subst hc
  refine fn_of lk hcd S len fun A outer s H vs Q E hr hsp => ?_
  obtain ⟨t, h, q⟩ := hbody c0 P0 TB hm hu A outer s H vs Q E hr hsp
  exact ⟨t, h.nox, q⟩
end
end ZL

section
variable {X : Cx} {c : CEnv} {k : Nat} {x m : Str} {ps gs : List Str} {sp : Sp} {p pos apos : Pos} {e : Expr} {es : List Expr} {t : TA} {pl : Sem Bool}
end
def bI (b : Bool) : Int := if b = true then 1 else 0
section
variable {X : Cx}
end

section
variable {N : Cn}
def pLtB : PR2 := fun x y Q => match x, y with
  | .bl i, .bl j => Q (.bl (decide (bI i < bI j)))
  | x, y => pLt x y Q
end
section
variable {ρ : PEnv} {D : PD} {Q : Da → Prop}
end

def keyF : Da → Option PyData
  | .bl b => some (.bool b)
  | .int i => some (.int i)
  | .str x => some (.str x)
  | _ => none
def keyD : Da → PyData
  | .bl b => .bool b
  | .int i => .int i
  | .str x => .str x
  | .tup [x, y] => .tuple [(keyF x).getD .none, (keyF y).getD .none]
  | _ => .none
def keyOk : Da → Bool
  | .bl _ => true | .int _ => true | .str _ => true
  | .tup [x, y] => (keyF x).isSome && (keyF y).isSome
  | _ => false
theorem keyD_depth {d : Da} (h : keyOk d = true) : (keyD d).depth ≤ 2 := by
  unfold keyOk at h
  split at h
  · unfold keyD; decide +revert
  · unfold keyD; simp [PyData.depth]
  · unfold keyD; simp [PyData.depth]
  · rename_i x y
    rw [Bool.and_eq_true] at h
    have hx : ((keyF x).getD .none).depth ≤ 1 := by
      unfold keyF; cases x <;> simp [PyData.depth]
    have hy : ((keyF y).getD .none).depth ≤ 1 := by
      unfold keyF; cases y <;> simp [PyData.depth]
    unfold keyD
    simp only [PyData.depth, PyData.depthAll] at *
    omega
  · cases h
theorem keyV_of {K : PySem.W.Frag} {c : CEnv} {S : Option Addr} {G H : Hp} {v : V} {d : Da} (s : Same G H) (r : Rp K c S G v d) (h : keyOk d = true) : ZL.KeyV K H v (keyD d) := by
  have one : ∀ {u : V} {e : Da}, Rp K c S G u e → (keyF e).isSome = true → ZL.KeyV K H u ((keyF e).getD .none) := fun {u e} r h => by
    cases e <;> first | (cases h; done) | skip
    · cases r; exact .bl _
    · cases r; exact .int _
    · cases r; exact .str _
  unfold keyOk at h
  split at h
  · cases r; exact .bl _
  · cases r; exact .int _
  · cases r; exact .str _
  · rw [Bool.and_eq_true] at h
    obtain ⟨a, xs, rfl, e, rr⟩ := rpT r
    obtain ⟨u, w1, rfl, r1, rr⟩ := rpsC rr
    obtain ⟨u2, w2, rfl, r2, rr⟩ := rpsC rr
    obtain rfl := rps0 rr
    exact .tup2 (Same.sqT s e) (one r1 h.1) (one r2 h.2)
  · cases h
noncomputable def srtD (ds : List Da) (ks : List PyData) : List Da := ((ds.zip ks).mergeSort (PySem.W.dataLe false Prod.snd)).map Prod.fst
section
variable {K : PySem.W.Frag} {c : CEnv} {S : Option Addr} {G : Hp}
theorem rpsMap3 : ∀ (L : List ((V × Da) × PyData)), (∀ p ∈ L, Rp K c S G p.1.1 p.1.2) → RpA K c S G (L.map fun p => p.1.1) (L.map fun p => p.1.2)
  | [], _ => .nil
  | p :: L, h => .cons (h p (List.mem_cons_self ..)) (rpsMap3 L fun q hq => h q (List.mem_cons_of_mem _ hq))
theorem rps_zip3 : ∀ {xs : List V} {ds : List Da} {ks : List PyData}, RpA K c S G xs ds → ks.length = ds.length → ∃ L : List ((V × Da) × PyData), (∀ p ∈ L, Rp K c S G p.1.1 p.1.2) ∧ L.map (fun p => (p.1.1, p.2)) = xs.zip ks ∧ L.map (fun p => (p.1.2, p.2)) = ds.zip ks
  | _, [], [], r, _ => by rw [rps0 r]; exact ⟨[], fun _ h => (nomatch h), rfl, rfl⟩
  | _, _ :: _, [], _, h => by simp at h
  | _, [], _ :: _, _, h => by simp at h
  | _, d :: ds, k :: ks, r, h => by
    obtain ⟨v, ws, rfl, r1, r2⟩ := rpsC r
    obtain ⟨L, h1, h2, h3⟩ := rps_zip3 r2 (by simpa using h)
    refine ⟨((v, d), k) :: L, fun p hp => ?_, by simp [h2], by simp [h3]⟩
    rcases List.mem_cons.mp hp with rfl | hp
    · exact r1
    · exact h1 p hp
theorem rps_srt {xs : List V} {ds : List Da} {ks : List PyData} (r : RpA K c S G xs ds) (h : ks.length = ds.length) : RpA K c S G (ZL.srtV xs ks) (srtD ds ks) := by
  obtain ⟨L, h1, h2, h3⟩ := rps_zip3 r h
  let s : ((V × Da) × PyData) → ((V × Da) × PyData) → Bool := PySem.W.dataLe false Prod.snd
  have e1 : (xs.zip ks).mergeSort (PySem.W.dataLe false Prod.snd) = (L.mergeSort s).map (fun p => (p.1.1, p.2)) := by
    rw [← h2]
    exact (List.map_mergeSort (r := s) (s := PySem.W.dataLe false Prod.snd) (f := fun p : (V × Da) × PyData => (p.1.1, p.2)) (l := L) (fun a _ b _ => rfl)).symm
  have e2 : (ds.zip ks).mergeSort (PySem.W.dataLe false Prod.snd) = (L.mergeSort s).map (fun p => (p.1.2, p.2)) := by
    rw [← h3]
    exact (List.map_mergeSort (r := s) (s := PySem.W.dataLe false Prod.snd) (f := fun p : (V × Da) × PyData => (p.1.2, p.2)) (l := L) (fun a _ b _ => rfl)).symm
  unfold ZL.srtV srtD
  rw [e1, e2, List.map_map, List.map_map]
  exact rpsMap3 _ fun p hp => h1 p ((List.mergeSort_perm L s).mem_iff.mp hp)
end
section
variable {N : Cn}
def pSrtK (j : Nat) (a b : PEx) : PEx := fun ρ Q => a ρ fun l => ∃ ds ks : List Da, l = .lst ds ∧ ks.length = ds.length ∧ (∀ (i : Nat) (d k : Da), ds[i]? = some d → ks[i]? = some k → b (ρ.set j (some (.d d))) fun y => y = k) ∧ (∀ k ∈ ks, keyOk k = true) ∧ PySem.W.AllAlike (ks.map keyD) ∧ PySem.W.Sortable (ks.map keyD) ∧ Q (.lst (srtD ds (ks.map keyD)))
theorem Draw.extN {H H' : Hp} {st L : Addr} (x : LamX.ExtN H H') (d : Draw H st L) : Draw H' st L := by
  obtain ⟨ns, k, a, e, s, n, hk, ha⟩ := d.ex
  exact ⟨ns, k, a, x _ _ e (fun _ z => (nomatch z)), x _ _ s (fun _ z => (nomatch z)), n, hk, ha⟩
theorem sim_srtK {j : Nat} {ta tb : TE} {a b : PEx} (ha : SimE N ta a) (hb : SimE N tb b) : SimE N (ZL.tSrtK N.K N.c.tb j ta tb) (pSrtK j a b) := by
  intro w H0 B aw ow H σ ρ Q Q' r z k
  refine ha w H0 B aw ow H σ ρ _ _ r z fun l d H1 r1 s1 h1 ⟨ds, ks, e, hl, turn, ok, al, so, q⟩ => ?_
  subst e
  obtain ⟨p, xs, rfl, e1, rr⟩ := rpL h1
  have hlen := rpsLen rr
  refine ⟨p, xs, ks.map keyD, fun H H' => Ex w.S H H' ∧ ∀ st L, w.S = some (st, L) → Draw H st L, rfl, SqL.of (hid_le _ _ e1), by rw [List.length_map, hl, hlen], al, so, fun d hd => ?_, r1.tb, fun {H2} x => ⟨Ex.of (Same.refl _) fun st L e => x.1.2 st L e, fun st L e => x.1.2 st L e⟩, fun {A B C} x y => ⟨Ex.trans x.1 y.1, x.2⟩, fun {A B} x => ?_, fun {H2} x t => ⟨⟨fun a o _ n e => x a o e n, fun st L e => (r1.dr st L e).1.extN x⟩, fun st L e => (r1.dr st L e).1⟩, ?_, ?_⟩
  · obtain ⟨k, hk, rfl⟩ := List.mem_map.mp hd
    exact keyD_depth (ok k hk)
  · intro b o e n1 n2
    refine x.1.1 b o (fun st L es z => ?_) n1 e
    obtain ⟨ns, kk, aa, e3, _⟩ := (x.2 st L es).ex
    rw [← z, e] at e3
    exact n2 _ (Option.some.inj e3)
  · intro i x dk H' hx hd hR T'
    rw [List.getElem?_map] at hd
    cases ek : ks[i]? with
    | none => rw [ek] at hd; cases hd
    | some kd =>
      rw [ek] at hd
      cases hd
      obtain ⟨d, ed, rd⟩ := rpsGetV rr hx
      have r2 := (r1.ex hR.1 T').set j (rpS (hR.1.dh r1) rd)
      refine hb w H0 B aw ow H' _ _ _ _ r2 (turn i d kd ed ek) fun v y H'' r3 s3 h3 q3 => ?_
      have q3 : y = kd := q3
      subst q3
      exact ⟨⟨s3, fun st L e => hR.1.2 st L e⟩, r3.tb, keyV_of hid_le h3 (ok _ (List.mem_of_getElem? ek))⟩
  · intro D H' hR T' hD
    exact (k.then (Ex.trans s1 hR.1) fun _ q => q).newL (r1.ex hR.1 T') (rps_srt (rpsS (hR.1.dh r1) rr) (by rw [List.length_map]; exact hl)) q hD
end
theorem p_srtK {j : Nat} {a b : PEx} {ρ : PEnv} {Q : Da → Prop} (h : a ρ fun l => ∃ ds ks : List Da, l = .lst ds ∧ ks.length = ds.length ∧ (∀ (i : Nat) (d k : Da), ds[i]? = some d → ks[i]? = some k → b (ρ.set j (some (.d d))) fun y => y = k) ∧ (∀ k ∈ ks, keyOk k = true) ∧ PySem.W.AllAlike (ks.map keyD) ∧ PySem.W.Sortable (ks.map keyD) ∧ Q (.lst (srtD ds (ks.map keyD)))) : pSrtK j a b ρ Q := h

section
variable {α : Type} {le : α → α → Bool}
def insB (le : α → α → Bool) (x : α) : List α → List α
  | [] => [x]
  | z :: t => if le x z = true then x :: z :: t else z :: insB le x t
def insA (le : α → α → Bool) (y : α) : List α → List α
  | [] => [y]
  | z :: t => if le z y = true then z :: insA le y t else y :: z :: t
theorem ins_comm (tr : ∀ a b c, le a b = true → le b c = true → le a c = true) (to : ∀ a b, (le a b || le b a) = true) (x y : α) : ∀ L : List α, insA le y (insB le x L) = insB le x (insA le y L)
  | [] => by
    by_cases h : le x y = true
    · simp [insB, insA, h]
    · simp [insB, insA, h]
  | z :: t => by
    have ih := ins_comm tr to x y t
    by_cases h1 : le x z = true
    · by_cases h2 : le z y = true
      · have h3 := tr _ _ _ h1 h2
        simp [insB, insA, h1, h2, h3]
      · by_cases h3 : le x y = true
        · simp [insB, insA, h1, h2, h3]
        · simp [insB, insA, h1, h2, h3]
    · by_cases h2 : le z y = true
      · simp [insB, insA, h1, h2, ih]
      · have h4 : le z x = true := by have := to x z; simp only [Bool.or_eq_true] at this; exact this.resolve_left h1
        have h3 : ¬ le x y = true := fun h => h2 (tr _ _ _ h4 h)
        simp [insB, insA, h1, h2, h3]
theorem insB_app {x : α} {l2 : List α} (h2 : ∀ b ∈ l2.head?, le x b = true) : ∀ l1 : List α, (∀ b ∈ l1, ¬ le x b = true) → insB le x (l1 ++ l2) = l1 ++ x :: l2
  | [], _ => by
    cases l2 with
    | nil => rfl
    | cons b t => rw [List.nil_append, insB, if_pos (h2 b rfl)]; rfl
  | z :: t, h => by
    rw [List.cons_append, insB, if_neg (h z (List.mem_cons_self ..)), insB_app h2 t fun b hb => h b (List.mem_cons_of_mem _ hb)]; rfl
theorem mergeSort_insB (tr : ∀ a b c, le a b = true → le b c = true → le a c = true) (to : ∀ a b, (le a b || le b a) = true) (x : α) (l : List α) : (x :: l).mergeSort le = insB le x (l.mergeSort le) := by
  obtain ⟨l1, l2, e1, e2, h⟩ := List.mergeSort_cons tr to x l
  rw [e1, e2]
  refine (insB_app (fun b hb => ?_) l1 fun b hb => by have := h b hb; simpa using this).symm
  have ps := List.pairwise_mergeSort tr to (x :: l)
  rw [e1] at ps
  have p2 := (List.pairwise_append.mp ps).2.1
  cases l2 with
  | nil => cases hb
  | cons c t => cases hb; exact (List.pairwise_cons.mp p2).1 _ (List.mem_cons_self ..)
theorem foldl_insB (tr : ∀ a b c, le a b = true → le b c = true → le a c = true) (to : ∀ a b, (le a b || le b a) = true) (x : α) : ∀ (xs L : List α), xs.foldl (fun L y => insA le y L) (insB le x L) = insB le x (xs.foldl (fun L y => insA le y L) L)
  | [], _ => rfl
  | y :: xs, L => by rw [List.foldl_cons, List.foldl_cons, ins_comm tr to, foldl_insB tr to x xs]
theorem foldl_insA (tr : ∀ a b c, le a b = true → le b c = true → le a c = true) (to : ∀ a b, (le a b || le b a) = true) : ∀ xs : List α, xs.foldl (fun L y => insA le y L) [] = xs.mergeSort le
  | [] => by rw [List.foldl_nil, List.mergeSort_nil]
  | x :: xs => by
    rw [List.foldl_cons, show insA le x [] = insB le x [] from rfl, foldl_insB tr to, foldl_insA tr to xs, mergeSort_insB tr to]
end

section
variable {X : Cx}
end
section
variable {N : Cn}
end

section
open PySem.W (dataLe dataLt)
theorem dataLe_def {α : Type} (k : α → PyData) (a b : α) : dataLe false k a b = !dataLt (k b) (k a) := rfl
theorem dataLe_tr {α : Type} (k : α → PyData) : ∀ a b c, dataLe false k a b = true → dataLe false k b c = true → dataLe false k a c = true := (PySem.W.sortLe_total (PyProof.Rows.listOrd PyProof.Rows.itemOrd) false fun b => PySem.W.keyToks (k b)).trans
theorem dataLe_to {α : Type} (k : α → PyData) (a b : α) : (dataLe false k a b || dataLe false k b a) = true := by
  have := (PySem.W.sortLe_total (PyProof.Rows.listOrd PyProof.Rows.itemOrd) false fun b => PySem.W.keyToks (k b)).total a b
  rw [Bool.or_eq_true]; exact this
theorem srtD_map {α : Type} (l : List α) (d k : α → Da) : srtD (l.map d) ((l.map k).map keyD) = (l.mergeSort (dataLe false fun a => keyD (k a))).map d := by
  unfold srtD
  rw [show (l.map d).zip ((l.map k).map keyD) = l.map fun a => (d a, keyD (k a)) by rw [List.map_map, List.zip_map']; rfl]
  rw [← List.map_mergeSort (r := dataLe false fun a => keyD (k a)) (f := fun a => (d a, keyD (k a))) (l := l) (fun a _ b _ => rfl), List.map_map]
  rfl
theorem insA_at {α : Type} {le : α → α → Bool} {y : α} : ∀ {L : List α} {p : Nat}, p ≤ L.length → (∀ j z, j < p → L[j]? = some z → le z y = true) → (∀ z, L[p]? = some z → le z y = false) → L.take p ++ y :: L.drop p = insA le y L
  | [], p, h, _, _ => by
    have : p = 0 := by simpa using h
    subst this; rfl
  | z :: t, 0, _, _, h2 => by
    rw [insA, if_neg (by rw [h2 z rfl]; exact Bool.false_ne_true)]; rfl
  | z :: t, p + 1, h, h1, h2 => by
    rw [insA, if_pos (h1 0 z (Nat.succ_pos _) rfl), ← insA_at (L := t) (p := p) (by simpa using h) (fun j w hj hw => h1 (j + 1) w (Nat.succ_lt_succ hj) hw) (fun w hw => h2 w hw)]
    rfl
end
theorem cutD_to {xs : List Da} {j : Nat} : cutD xs none (some (j : Int)) = xs.take j := by
  unfold cutD
  rw [HT.sIx_none, HT.sIx_nat, List.drop_zero, Nat.sub_zero]
  rcases Nat.le_total j xs.length with h | h
  · rw [Nat.min_eq_left h]
  · rw [Nat.min_eq_right h, List.take_of_length_le (Nat.le_refl _), List.take_of_length_le h]
theorem cutD_fr {xs : List Da} {j : Nat} : cutD xs (some (j : Int)) none = xs.drop j := by
  unfold cutD
  rw [HT.sIx_none, HT.sIx_nat]
  rcases Nat.le_total j xs.length with h | h
  · rw [Nat.min_eq_left h, List.take_of_length_le (by rw [List.length_drop]; exact Nat.le_refl _)]
  · rw [Nat.min_eq_right h, List.drop_eq_nil_of_le (Nat.le_refl _), List.drop_eq_nil_of_le h, List.take_nil]


local macro_rules | `(tactic| walk_at "pu") => `(tactic| (with_reducible first | refine p_istr ?_ | refine p_cstT ?_ | refine p_kout ?_ | refine p_kin ?_ | refine p_kst ?_ | refine p_ord ?_ | refine p_izip2 ?_ | refine p_izip3 ?_ | (refine p_zip2 (by first | exact seqL | exact seqT | assumption) (by first | exact seqL | exact seqT | assumption) ?_) | (refine p_zip3 (by first | exact seqL | exact seqT | assumption) (by first | exact seqL | exact seqT | assumption) (by first | exact seqL | exact seqT | assumption) ?_) | (refine p_lenS (by omega) ?_)))
local macro_rules | `(tactic| walk_at "pv") => `(tactic| repeat (first | walk_at "p1" | walk_at "pu"))
local macro_rules | `(tactic| walk_at "pw") => `(tactic| repeat (first | walk_at "p1" | walk_at "pu" | walk_at "pd"))

abbrev SKK : List Str := ["parent", "centres", "cells"]
structure SkF where
  p : Option Nat
  c : List (Int × List Int)
  e : List (List Int × List Int)
def parD : Option Nat → Da
  | none => .non
  | some j => .int (j : Nat)
def cenD (x : Int × List Int) : Da := .tup [.int x.1, .tup (iD x.2)]
def celD (x : List Int × List Int) : Da := .tup [.tup (iD x.1), .tup (iD x.2)]
def SkF.da (s : SkF) : Da := .ins "Sketch" SKK [parD s.p, .tup (s.c.map cenD), .tup (s.e.map celD)]
def layD (S : List SkF) (L : List Int) : Da := .ins "Layout" ["sketches", "leaves"] [.tup (S.map SkF.da), .tup (iD L)]
def nD (o : List Nat) : List Da := o.map fun i => Da.int (i : Nat)
theorem ixN_n {n j : Nat} (h : j < n) : ixN n (j : Int) = some j := by
  unfold ixN
  rw [if_pos (by omega), if_pos (by omega)]; simp
theorem iD_gt {l : List Int} {i : Nat} {x : Da} (h : (iD l)[i]? = some x) : ∃ y, l[i]? = some y ∧ x = .int y := by
  unfold iD at h
  rw [List.getElem?_map] at h
  cases e : l[i]? with
  | none => rw [e] at h; cases h
  | some z => rw [e] at h; exact ⟨z, rfl, (Option.some.inj h).symm⟩
theorem nD_gt {l : List Nat} {i : Nat} {x : Da} (h : (nD l)[i]? = some x) : ∃ y, l[i]? = some y ∧ x = .int (y : Nat) := by
  unfold nD at h
  rw [List.getElem?_map] at h
  cases e : l[i]? with
  | none => rw [e] at h; cases h
  | some z => rw [e] at h; exact ⟨z, rfl, (Option.some.inj h).symm⟩
theorem nD_len (l : List Nat) : (nD l).length = l.length := by unfold nD; rw [List.length_map]
def plD : Nat → Da → Prop
  | 0, d => flD d = true
  | n + 1, d => flD d = true ∨ ∃ l, (d = .tup l ∨ d = .lst l) ∧ ∀ x ∈ l, plD n x
theorem plD.cq : ∀ {n : Nat} {d : Da}, plD n d → Cq n d d
  | 0, d, h => Cq.flat h h
  | n + 1, d, h => by
    rcases h with h | ⟨l, rfl | rfl, h⟩
    · exact Cq.flat h h
    · exact Cq.tup fun i x y hx hy => by rw [hx] at hy; cases hy; exact plD.cq (h x (List.mem_of_getElem? hx))
    · exact Cq.lst fun i x y hx hy => by rw [hx] at hy; cases hy; exact plD.cq (h x (List.mem_of_getElem? hx))
theorem plD.rf : ∀ {n : Nat} {d : Da}, plD n d → eqD d d = true
  | 0, d, h => by rw [eqD_flat h h]; exact eq0_refl d h
  | n + 1, d, h => by
    rcases h with h | ⟨l, rfl | rfl, h⟩
    · rw [eqD_flat h h]; exact eq0_refl d h
    · simp only [eqD]; exact eqDs_refl fun x hx => plD.rf (h x hx)
    · simp only [eqD]; exact eqDs_refl fun x hx => plD.rf (h x hx)
theorem p_eqPl {n : Nat} {d : Da} {Q : Da → Prop} (hn : n ≤ 16) (h : plD n d) (k : Q (.bl true)) : pEq d d Q := ⟨n, hn, h.cq, by rw [h.rf]; exact k⟩
theorem plD.ints {n : Nat} (l : List Int) : plD (n + 1) (.lst (iD l)) := .inr ⟨_, .inr rfl, fun x hx => by
  obtain ⟨i, _, rfl⟩ := List.mem_map.mp hx
  cases n with
  | zero => show flD (Da.int i) = true; rfl
  | succ n => exact .inl rfl⟩
def ps_check_rule : PSp := fun ds Q E => ∃ a b : List Int, ds = [.lst (iD a), .lst (iD b)] ∧ (((∀ x ∈ a, 1 ≤ x) ∧ ∀ x ∈ b, 0 ≤ x) → Q .non) ∧ (¬ ((∀ x ∈ a, 1 ≤ x) ∧ ∀ x ∈ b, 0 ≤ x) → E "InvalidRule")
def sp_check_rule (K : PySem.W.Frag) (c : CEnv) : Sp := lift K c ps_check_rule
theorem b_check_rule {K : PySem.W.Frag} {c : CEnv} : SpSim K c (sp_check_rule K c) ps_check_rule := spSim_lift
abbrev N_check_rule : List Str := ["positive", "other", "number"]
-- check_rule(positive, other): slots 0:positive 1:other 2:number
def T_check_rule_b1 (K : PySem.W.Frag) (c : CEnv) (W : WX) : TS :=
    (tIfS (tTest (tOp (uLt K) (tVar 2) (tC (.int 1)))) (sRaise c "InvalidRule" W) tNext)
def T_check_rule_b2 (K : PySem.W.Frag) (c : CEnv) (W : WX) : TS :=
    (tIfS (tTest (tOp (uLt K) (tVar 2) (tC (.int 0)))) (sRaise c "InvalidRule" W) tNext)
def T_check_rule (K : PySem.W.Frag) (c : CEnv) (W : WX) : TS :=
    (tSeq (tFor (iSq K (tVar 0)) (gName 2) (T_check_rule_b1 K c W))
    (tFor (iSq K (tVar 1)) (gName 2) (T_check_rule_b2 K c W)))
def P_check_rule_b1 (Wp : WP) : PSt :=
    (pIfS (pTest (pOp pLt (pVar 2) (pC (.int 1)))) (pRaise Wp "InvalidRule") pNext)
def P_check_rule_b2 (Wp : WP) : PSt :=
    (pIfS (pTest (pOp pLt (pVar 2) (pC (.int 0)))) (pRaise Wp "InvalidRule") pNext)
def P_check_rule (Wp : WP) : PSt :=
    (pSeq (pFor (piSq (pVar 0)) (pgName 2) (P_check_rule_b1 Wp))
    (pFor (piSq (pVar 1)) (pgName 2) (P_check_rule_b2 Wp)))
theorem S_check_rule {K : PySem.W.Frag} {c : CEnv} {W : WX} {Wp : WP} : SimS ⟨K, c, W, Wp⟩ (T_check_rule K c W) (P_check_rule Wp) := by
  unfold T_check_rule P_check_rule T_check_rule_b2 T_check_rule_b1 P_check_rule_b2 P_check_rule_b1
  exact (sim_seq (sim_for (sim_iSq (sim_var 0)) (sim_gName 2) (sim_ifS (sim_test (sim_op sim_lt (sim_var 2) (sim_int _))) sim_raise sim_next))
    (sim_for (sim_iSq (sim_var 1)) (sim_gName 2) (sim_ifS (sim_test (sim_op sim_lt (sim_var 2) (sim_int _))) sim_raise sim_next)))

theorem q_check_rule : ∀ ds Q E, ps_check_rule ds Q E → ds.length = 2 ∧ P_check_rule (fun x _ => E x) { nx := fun _ => Q .non, rt := Q } (startP 3 ds) := by
  rintro _ Q E ⟨a, b, rfl, y, no⟩
  refine ⟨rfl, ?_⟩
  show P_check_rule _ _ [some (.d (.lst (iD a))), some (.d (.lst (iD b))), none]
  unfold P_check_rule P_check_rule_b1 P_check_rule_b2
  walk_at "pz"
  refine p_loop (fun i ρ => (∀ x ∈ a.take i, 1 ≤ x) ∧ ∃ z, ρ = [some (.d (.lst (iD a))), some (.d (.lst (iD b))), z]) ⟨(by intro x hx; cases hx), _, rfl⟩ ?_ ?_
  · rintro i x _ hx ⟨al, z, rfl⟩
    obtain ⟨v, hv, rfl⟩ := iD_gt hx
    walk_at "pz"
    refine z_itD (fun h => ?_) (fun h => ?_)
    · exact no fun h2 => by have := h2.1 v (List.mem_of_getElem? hv); omega
    · refine ⟨fun x hx => ?_, _, rfl⟩
      rw [List.take_add_one, hv] at hx
      rcases List.mem_append.mp hx with h1 | h1
      · exact al x h1
      · have : x = v := by simpa using h1
        omega
  rintro _ ⟨al, z, rfl⟩
  rw [List.length_map, List.take_length] at al
  walk_at "pz"
  refine p_loop (fun i ρ => (∀ x ∈ b.take i, 0 ≤ x) ∧ ∃ z, ρ = [some (.d (.lst (iD a))), some (.d (.lst (iD b))), z]) ⟨(by intro x hx; cases hx), _, rfl⟩ ?_ ?_
  · rintro i x _ hx ⟨bl, z, rfl⟩
    obtain ⟨v, hv, rfl⟩ := iD_gt hx
    walk_at "pz"
    refine z_itD (fun h => ?_) (fun h => ?_)
    · exact no fun h2 => by have := h2.2 v (List.mem_of_getElem? hv); omega
    · refine ⟨fun x hx => ?_, _, rfl⟩
      rw [List.take_add_one, hv] at hx
      rcases List.mem_append.mp hx with h1 | h1
      · exact bl x h1
      · have : x = v := by simpa using h1
        omega
  rintro _ ⟨bl, z, rfl⟩
  rw [List.length_map, List.take_length] at bl
  exact y ⟨al, bl⟩
theorem w_check_rule {K : PySem.W.Frag} {c : CEnv} : WdX (T_check_rule K c) N_check_rule 2 (sp_check_rule K c) := wd_liftX (fun W Wp => S_check_rule) q_check_rule
def ps_Layout_init : PSi := fun ds Q _ => ∃ (u v : Da) (a b : List Da), ds = [u, v] ∧ seqD u a ∧ seqD v b ∧ Q [.tup a, .tup b]
def sp_Layout_init (K : PySem.W.Frag) (c : CEnv) : Sp := liftI K c "Layout" ["sketches", "leaves"] ps_Layout_init
theorem b_Layout_init {K : PySem.W.Frag} {c : CEnv} : SpSimI K c "Layout" ["sketches", "leaves"] (sp_Layout_init K c) ps_Layout_init := spSimI_lift
abbrev N_Layout_init : List Str := ["self", "sketches", "leaves"]
-- Layout.__init__(self, sketches, leaves): slots 0:self 1:sketches 2:leaves
def T_Layout_init (K : PySem.W.Frag) : TS :=
    (tSeq (sFld K (tVar 0) (tCB (uTuple K) (tCons (tVar 1) tNil)) "sketches")
    (sFld K (tVar 0) (tCB (uTuple K) (tCons (tVar 2) tNil)) "leaves"))
def P_Layout_init : PSt :=
    (pSeq (pSetF 0 "sketches" (pCB pTuple (pCons (pVar 1) pNil)))
    (pSetF 0 "leaves" (pCB pTuple (pCons (pVar 2) pNil))))
theorem S_Layout_init {K : PySem.W.Frag} {c : CEnv} : SimS ⟨K, c, W0, fun _ _ => False⟩ (T_Layout_init K) (P_Layout_init) := by
  unfold T_Layout_init P_Layout_init
  exact (sim_seq (sim_setF (sim_cb sim_tuple (sim_cons (sim_var 1) sim_nil)))
    (sim_setF (sim_cb sim_tuple (sim_cons (sim_var 2) sim_nil))))

theorem q_Layout_init : ∀ ds Q E, ps_Layout_init ds Q E → ds.length + 1 = 3 ∧ P_Layout_init { nx := endI "Layout" ["sketches", "leaves"] Q, rt := fun _ => False } (startI "Layout" ["sketches", "leaves"] 3 ds) := by
  rintro _ Q E ⟨u, v, a, b, rfl, hu, hv, q⟩
  refine ⟨rfl, ?_⟩
  show P_Layout_init _ [some (.obj "Layout" ["sketches", "leaves"] [] []), some (.d u), some (.d v)]
  unfold P_Layout_init
  walk_at "pz"
  refine p_tupleS hu ?_
  walk_at "pz"
  refine p_tupleS hv ?_
  walk_at "pz"
  exact ⟨_, rfl, q⟩
theorem w_Layout_init {K : PySem.W.Frag} {c : CEnv} : Wd (T_Layout_init K) N_Layout_init 3 (sp_Layout_init K c) := wd_liftI S_Layout_init (by decide) q_Layout_init
def ps_Sketch_init : PSi := fun ds Q _ => ∃ (s : SkF) (u v : Da), ds = [parD s.p, u, v] ∧ seqD u (s.c.map cenD) ∧ seqD v (s.e.map celD) ∧ s.c.length ≤ 1000 ∧ s.e.length ≤ 1000 ∧ Q [parD s.p, .tup (s.c.map cenD), .tup (s.e.map celD)]
def sp_Sketch_init (K : PySem.W.Frag) (c : CEnv) : Sp := liftI K c "Sketch" SKK ps_Sketch_init
theorem b_Sketch_init {K : PySem.W.Frag} {c : CEnv} : SpSimI K c "Sketch" SKK (sp_Sketch_init K c) ps_Sketch_init := spSimI_lift
abbrev N_Sketch_init : List Str := ["self", "parent", "centres", "cells", "start", "centre", "near", "rival"]
-- Sketch.__init__(self, parent, centres, cells): slots 0:self 1:parent 2:centres 3:cells 4:start 5:centre 6:near 7:rival
def T_Sketch_init (K : PySem.W.Frag) : TS :=
    (tSeq (sFld K (tVar 0) (tVar 1) "parent")
    (tSeq (sFld K (tVar 0) (tCB (uTuple K) (tCons (tLc (iSq K (tVar 2)) (gTup K 2 (gCons (gName 4) (gCons (gName 5) gNil))) tYes (tTup (tCons (tVar 4) (tCons (tCB (uTuple K) (tCons (tVar 5) tNil)) tNil))) [4, 5]) tNil)) "centres")
    (sFld K (tVar 0) (tCB (uTuple K) (tCons (tLc (iSq K (tVar 3)) (gTup K 2 (gCons (gName 6) (gCons (gName 7) gNil))) tYes (tTup (tCons (tCB (uTuple K) (tCons (tVar 6) tNil)) (tCons (tCB (uTuple K) (tCons (tVar 7) tNil)) tNil))) [6, 7]) tNil)) "cells")))
def P_Sketch_init : PSt :=
    (pSeq (pSetF 0 "parent" (pVar 1))
    (pSeq (pSetF 0 "centres" (pCB pTuple (pCons (pLc (piSq (pVar 2)) (pgTup 2 (pgCons (pgName 4) (pgCons (pgName 5) pgNil))) pYes (pTup (pCons (pVar 4) (pCons (pCB pTuple (pCons (pVar 5) pNil)) pNil))) [4, 5]) pNil)))
    (pSetF 0 "cells" (pCB pTuple (pCons (pLc (piSq (pVar 3)) (pgTup 2 (pgCons (pgName 6) (pgCons (pgName 7) pgNil))) pYes (pTup (pCons (pCB pTuple (pCons (pVar 6) pNil)) (pCons (pCB pTuple (pCons (pVar 7) pNil)) pNil))) [6, 7]) pNil)))))
theorem S_Sketch_init {K : PySem.W.Frag} {c : CEnv} : SimS ⟨K, c, W0, fun _ _ => False⟩ (T_Sketch_init K) (P_Sketch_init) := by
  unfold T_Sketch_init P_Sketch_init
  exact (sim_seq (sim_setF (sim_var 1))
    (sim_seq (sim_setF (sim_cb sim_tuple (sim_cons (sim_lc (sim_iSq (sim_var 2)) (sim_gTup (sim_gCons (sim_gName 4) (sim_gCons (sim_gName 5) sim_gNil))) (by decide) sim_yes (sim_tup (sim_cons (sim_var 4) (sim_cons (sim_cb sim_tuple (sim_cons (sim_var 5) sim_nil)) sim_nil)))) sim_nil)))
    (sim_setF (sim_cb sim_tuple (sim_cons (sim_lc (sim_iSq (sim_var 3)) (sim_gTup (sim_gCons (sim_gName 6) (sim_gCons (sim_gName 7) sim_gNil))) (by decide) sim_yes (sim_tup (sim_cons (sim_cb sim_tuple (sim_cons (sim_var 6) sim_nil)) (sim_cons (sim_cb sim_tuple (sim_cons (sim_var 7) sim_nil)) sim_nil)))) sim_nil)))))

theorem q_Sketch_init : ∀ ds Q E, ps_Sketch_init ds Q E → ds.length + 1 = 4 ∧ P_Sketch_init { nx := endI "Sketch" SKK Q, rt := fun _ => False } (startI "Sketch" SKK 8 ds) := by
  rintro _ Q E ⟨s, u, v, rfl, hu, hv, lc, le, q⟩
  refine ⟨rfl, ?_⟩
  show P_Sketch_init _ [some (.obj "Sketch" SKK [] []), some (.d (parD s.p)), some (.d u), some (.d v), none, none, none, none]
  unfold P_Sketch_init
  walk_at "pz"
  refine p_isqS hu ?_
  refine p_map (by rw [List.length_map]; omega) id (fun i x R hx k => ?_) ?_
  · rw [List.getElem?_map] at hx
    obtain ⟨z, _, rfl⟩ := Option.map_eq_some_iff.mp hx
    unfold cenD at k ⊢
    walk_at "pz"
    exact k
  rw [List.map_id]
  walk_at "pz"
  refine p_isqS hv ?_
  refine p_map (by rw [List.length_map]; omega) id (fun i x R hx k => ?_) ?_
  · rw [List.getElem?_map] at hx
    obtain ⟨z, _, rfl⟩ := Option.map_eq_some_iff.mp hx
    unfold celD at k ⊢
    walk_at "pz"
    exact k
  rw [List.map_id]
  walk_at "pz"
  exact ⟨_, rfl, q⟩
theorem w_Sketch_init {K : PySem.W.Frag} {c : CEnv} : Wd (T_Sketch_init K) N_Sketch_init 4 (sp_Sketch_init K c) := wd_liftI S_Sketch_init (by decide) q_Sketch_init
theorem rep_map {α : Type} {n : Nat} {x : Da} (l : List α) (h : l.length = n) : l.map (fun _ => x) = List.replicate n x := by rw [List.map_const', h]
-- block_layout(order, size): slots 0:order 1:size 2:leaves 3:_ 4:rank 5:place 6:many
-- Blocks.__init__(self, size): slots 0:self 1:size
-- SortedBlocks.__init__(self, field, size): slots 0:self 1:field 2:size
-- Blocks.layout(self, schema, records): slots 0:self 1:schema 2:records
def recN (nm : Da) (v w : List Da) (f : List (Str × Da)) : Da := recD nm v (prD (f.map fun x => (.str x.1, x.2))) w
-- Record.value(self, name): slots 0:self 1:name 2:field 3:worth
def kOk (k : Nat) (d : Da) : Prop := (k = 0 ∧ ∃ i, d = .int i) ∨ (k = 1 ∧ ∃ s, d = .str s) ∨ (k = 2 ∧ ∃ b, d = .bl b)
theorem kOk.ok {k : Nat} {d : Da} (h : kOk k d) : keyOk d = true := by
  rcases h with ⟨_, i, rfl⟩ | ⟨_, s, rfl⟩ | ⟨_, b, rfl⟩ <;> rfl
theorem kOk.al {k : Nat} {d e : Da} (h : kOk k d) (h2 : kOk k e) : PySem.W.alike (keyD d) (keyD e) = true := by
  rcases h with ⟨rfl, i, rfl⟩ | ⟨rfl, s, rfl⟩ | ⟨rfl, b, rfl⟩ <;> rcases h2 with ⟨z, i2, rfl⟩ | ⟨z, s2, rfl⟩ | ⟨z, b2, rfl⟩ <;> first | rfl | omega
theorem kOk.so {k : Nat} {d : Da} (h : kOk k d) : keyD d ≠ .none ∧ ∀ xs, keyD d ≠ .tuple xs := by
  rcases h with ⟨_, i, rfl⟩ | ⟨_, s, rfl⟩ | ⟨_, b, rfl⟩ <;> exact ⟨(fun z => nomatch z), fun _ z => nomatch z⟩
theorem kOk.lt {k : Nat} {d e : Da} {Q : Da → Prop} (h : kOk k d) (h2 : kOk k e) (q : Q (.bl (PySem.W.dataLt (keyD d) (keyD e)))) : pLtB d e Q := by
  rcases h with ⟨rfl, i, rfl⟩ | ⟨rfl, s, rfl⟩ | ⟨rfl, b, rfl⟩ <;> rcases h2 with ⟨z, i2, rfl⟩ | ⟨z, s2, rfl⟩ | ⟨z, b2, rfl⟩ <;> try omega
  · rw [show PySem.W.dataLt (keyD (.int i)) (keyD (.int i2)) = decide (i < i2) from PySem.W.dataLt_int ..] at q; exact q
  · rw [show PySem.W.dataLt (keyD (.str s)) (keyD (.str s2)) = decide (s.cps.toList < s2.cps.toList) from PySem.W.dataLt_str ..] at q; exact q
  · rw [show PySem.W.dataLt (keyD (.bl b)) (keyD (.bl b2)) = _ from PySem.W.dataLt_bool ..] at q; exact q
theorem enumD_range (ws : List Da) : enumD ws = (List.range ws.length).map fun i => .tup [.int (i : Nat), ws.getD i .non] := by
  unfold enumD
  refine List.ext_getElem? fun i => ?_
  rw [List.getElem?_mapIdx, List.getElem?_map]
  rcases Nat.lt_or_ge i ws.length with h | h
  · rw [List.getElem?_eq_getElem h, List.getElem?_range h]
    show some (Da.tup [.int (i : Nat), ws[i]]) = some (Da.tup [.int (i : Nat), ws.getD i .non])
    rw [List.getD_eq_getElem?_getD, List.getElem?_eq_getElem h]; rfl
  · rw [List.getElem?_eq_none h, List.getElem?_eq_none (by rw [List.length_range]; exact h)]; rfl
theorem atI_s {α : Type} {l : List α} {j : Nat} {x : α} (h : l[j]? = some x) : atI l (j : Int) = some x := by
  have hj := (List.getElem?_eq_some_iff.mp h).1
  unfold atI ixN
  rw [if_pos (by omega), if_pos (by omega)]
  show (some (j : Int).toNat).bind _ = _
  rw [Int.toNat_natCast]; exact h
theorem p_compM {α : Type} {l : List α} {pg : PTg} {e : PEx} {us : List Nat} {ρ : PEnv} {QA : List Da → Prop} (f g : α → Da) (hn : l.length ≤ 90000) (hs : ∀ (a : α) (R : Da → Prop), a ∈ l → R (g a) → pg (f a) (wipeP ρ us) fun ρ2 => e ρ2 R) (hd : QA (l.map g)) : pComp (l.map f) pg pYes e us ρ QA := by
  have := p_filt (g := g) (f := f) (l := l) (pg := pg) (c := pYes) (e := e) (us := us) (ρ := ρ) (QA := QA) (fun _ => true) hn (fun i a k1 k2 hi y no => hs a k1 (List.mem_of_getElem? hi) (y rfl)) (by rw [List.filter_eq_self.mpr fun _ _ => rfl]; exact hd)
  exact this
-- SortedBlocks.layout(self, schema, records): slots 0:self 1:schema 2:records 3:worths 4:record 5:present 6:place 7:worth 8:lacking
-- root(number): slots 0:number 1:low 2:high 3:middle
-- gap(far, near): slots 0:far 1:near
def Short (a : Int) : Prop := a.natAbs < 2 ^ 40000
theorem pow_le_pow {a b : Nat} (h : a ≤ b) : (2 : Nat) ^ a ≤ 2 ^ b := Nat.pow_le_pow_right (by decide) h
theorem Short.of {a : Int} {b : Nat} (h : a.natAbs < 2 ^ b) (hb : b ≤ 40000) : Short a := Nat.lt_of_lt_of_le h (pow_le_pow hb)
def distZ : List Int → List Int → Int
  | x :: xs, y :: ys => (x - y) * (x - y) + distZ xs ys
  | _, _ => 0
theorem take_s {xs : List Int} {i : Nat} (h : i < xs.length) : xs.take (i + 1) = xs.take i ++ [xs.getD i 0] := by
  rw [List.take_succ, List.getElem?_eq_getElem h]
  simp [List.getD, h]
theorem distZ_app : ∀ (a b : List Int) (x y : Int), a.length = b.length → distZ (a ++ [x]) (b ++ [y]) = distZ a b + (x - y) * (x - y)
  | [], [], x, y, _ => by show (x - y) * (x - y) + 0 = 0 + (x - y) * (x - y); omega
  | [], _ :: _, _, _, h => by cases h
  | _ :: _, [], _, _, h => by cases h
  | u :: a, v :: b, x, y, h => by
    show (u - v) * (u - v) + distZ (a ++ [x]) (b ++ [y]) = (u - v) * (u - v) + distZ a b + (x - y) * (x - y)
    rw [distZ_app a b x y (by simpa using h)]; omega
theorem distZ_take {a b : List Int} {i : Nat} (h : a.length = b.length) (hi : i < a.length) : distZ (a.take (i + 1)) (b.take (i + 1)) = distZ (a.take i) (b.take i) + (a.getD i 0 - b.getD i 0) * (a.getD i 0 - b.getD i 0) := by
  rw [take_s hi, take_s (h ▸ hi), distZ_app _ _ _ _ (by simp [h])]
def Bd (b : Int) (ns : List Int) : Prop := ∀ x ∈ ns, -b ≤ x ∧ x ≤ b
theorem Bd.mono {b c : Int} {ns : List Int} (h : Bd b ns) (hbc : b ≤ c) : Bd c ns := fun y hy => by have := h y hy; omega
theorem getD_mem {ns : List Int} {i : Nat} (h : i < ns.length) : ns.getD i 0 ∈ ns := by
  rw [List.getD_eq_getElem?_getD, List.getElem?_eq_getElem h]; exact List.getElem_mem h
theorem Bd.at {b : Int} {ns : List Int} (h : Bd b ns) {i : Nat} (hi : i < ns.length) : -b ≤ ns.getD i 0 ∧ ns.getD i 0 ≤ b := h _ (getD_mem hi)
-- split(d, e, f): slots 0:d 1:e 2:f
def Mid (a : Int) : Prop := a.natAbs < 2 ^ 2000
theorem Mid.of {a : Int} {b : Nat} (h : a.natAbs < 2 ^ b) (hb : b ≤ 2000) : Mid a := Nat.lt_of_lt_of_le h (pow_le_pow hb)
theorem Mid.sub {a b : Int} (ha : Mid a) (hb : Mid b) : (a - b).natAbs < 2 ^ 2001 := by
  have e : (2 : Nat) ^ 2001 = 2 ^ 2000 + 2 ^ 2000 := by rw [show (2001 : Nat) = 2000 + 1 from rfl, Nat.pow_succ, Nat.mul_two]
  rw [e]
  unfold Mid at ha hb
  generalize (2 : Nat) ^ 2000 = M at *
  omega
-- _law_root(_law_number_here): slots 0:_law_number_here 1:_law_low 2:_law_high 3:_law_k 4:_law_middle
local macro_rules | `(tactic| walk_at "pu") => `(tactic| (with_reducible first | refine p_istr ?_ | refine p_cstT ?_ | refine p_kout ?_ | refine p_kin ?_ | refine p_kst ?_ | refine p_ord ?_ | refine p_izip2 ?_ | refine p_izip3 ?_ | (refine p_zip2 (by first | exact seqL | exact seqT | assumption) (by first | exact seqL | exact seqT | assumption) ?_) | (refine p_zip3 (by first | exact seqL | exact seqT | assumption) (by first | exact seqL | exact seqT | assumption) (by first | exact seqL | exact seqT | assumption) ?_) | (refine p_lenS (by omega) ?_)))
local macro_rules | `(tactic| walk_at "pv") => `(tactic| repeat (first | walk_at "p1" | walk_at "pu"))
local macro_rules | `(tactic| walk_at "pw") => `(tactic| repeat (first | walk_at "p1" | walk_at "pu" | walk_at "pd"))

def VM : Int := 100000000000000000
theorem zip_ints {a b : List Int} {i : Nat} {x : Da} (h : (zipD (iD a) (iD b))[i]? = some x) : i < a.length ∧ i < b.length ∧ x = .tup [.int (a.getD i 0), .int (b.getD i 0)] := by
  obtain ⟨u, v, hu, hv, rfl⟩ := zipD_get h
  rw [List.getElem?_map] at hu hv
  cases e1 : a[i]? with
  | none => rw [e1] at hu; cases hu
  | some t =>
  cases e2 : b[i]? with
  | none => rw [e2] at hv; cases hv
  | some y =>
  rw [e1] at hu; rw [e2] at hv
  cases hu; cases hv
  refine ⟨(List.getElem?_eq_some_iff.mp e1).1, (List.getElem?_eq_some_iff.mp e2).1, ?_⟩
  rw [List.getD_eq_getElem?_getD, List.getD_eq_getElem?_getD, e1, e2]; rfl
-- inner(a, b): slots 0:a 1:b 2:total 3:x 4:y
def ps_distance : PSp := fun ds Q _ => ∃ (u v : Da) (a b : List Int), ds = [u, v] ∧ seqD u (iD a) ∧ seqD v (iD b) ∧ a.length = b.length ∧ Bd VM a ∧ Bd VM b ∧ Q (.int (distZ a b))
def sp_distance (K : PySem.W.Frag) (c : CEnv) : Sp := lift K c ps_distance
theorem b_distance {K : PySem.W.Frag} {c : CEnv} : SpSim K c (sp_distance K c) ps_distance := spSim_lift
abbrev N_distance : List Str := ["a", "b", "total", "x", "y"]
-- distance(a, b): slots 0:a 1:b 2:total 3:x 4:y
def T_distance_b1 (K : PySem.W.Frag) : TS :=
    (tAsg (tOp (uAdd K) (tVar 2) (tOp uMul (tOp uSub (tVar 3) (tVar 4)) (tOp uSub (tVar 3) (tVar 4)))) (gName 2))
def T_distance (K : PySem.W.Frag) : TS :=
    (tSeq (tAsg (tC (.int 0)) (gName 2))
    (tSeq (tFor (iZip2 K (tCons (tVar 0) (tCons (tVar 1) tNil))) (gTup K 2 (gCons (gName 3) (gCons (gName 4) gNil))) (T_distance_b1 K))
    (tRet (tVar 2))))
def P_distance_b1 : PSt :=
    (pAsg (pOp pAdd (pVar 2) (pOp pMul (pOp pSub (pVar 3) (pVar 4)) (pOp pSub (pVar 3) (pVar 4)))) (pgName 2))
def P_distance : PSt :=
    (pSeq (pAsg (pC (.int 0)) (pgName 2))
    (pSeq (pFor (piZip2 (pCons (pVar 0) (pCons (pVar 1) pNil))) (pgTup 2 (pgCons (pgName 3) (pgCons (pgName 4) pgNil))) P_distance_b1)
    (pRet (pVar 2))))
theorem S_distance {K : PySem.W.Frag} {c : CEnv} : SimS ⟨K, c, W0, fun _ _ => False⟩ (T_distance K) (P_distance) := by
  unfold T_distance P_distance T_distance_b1 P_distance_b1
  exact (sim_seq (sim_asg (sim_int _) (sim_gName 2))
    (sim_seq (sim_for (sim_iZip2 (sim_cons (sim_var 0) (sim_cons (sim_var 1) sim_nil))) (sim_gTup (sim_gCons (sim_gName 3) (sim_gCons (sim_gName 4) sim_gNil))) (sim_asg (sim_op sim_add (sim_var 2) (sim_op sim_mul (sim_op sim_sub (sim_var 3) (sim_var 4)) (sim_op sim_sub (sim_var 3) (sim_var 4)))) (sim_gName 2)))
    (sim_ret (sim_var 2))))

theorem q_distance : ∀ ds Q E, ps_distance ds Q E → ds.length = 2 ∧ P_distance { nx := fun _ => Q .non, rt := Q } (startP 5 ds) := by
  rintro _ Q E ⟨u, v, a, b, rfl, su, sv, hl, b1, b2, q⟩
  refine ⟨rfl, ?_⟩
  show P_distance _ [some (.d u), some (.d v), none, none, none]
  unfold P_distance
  walk_at "pv"
  refine p_loop (fun i ρ => ∃ x3 x4, ρ = [some (.d u), some (.d v), some (.d (.int (distZ (a.take i) (b.take i)))), x3, x4]) ?_ ?_ ?_
  · exact ⟨none, none, by simp [distZ]⟩
  · rintro i x ρ' hx ⟨x3, x4, rfl⟩
    obtain ⟨l1, l2, rfl⟩ := zip_ints hx
    have u1 := b1.at l1
    have u2 := b2.at l2
    unfold P_distance_b1
    walk_at "pv"
    refine p_mul (by unfold VM at *; walk_at "mulok") ?_
    walk_at "pv"
    rw [← distZ_take hl l1]
    exact ⟨_, _, rfl⟩
  · rintro ρ' ⟨x3, x4, rfl⟩
    rw [zipD_len, List.length_map, List.length_map, hl, Nat.min_self, List.take_length, ← hl, List.take_length]
    walk_at "pv"
    exact q
theorem w_distance {K : PySem.W.Frag} {c : CEnv} : Wd (T_distance K) N_distance 2 (sp_distance K c) := wd_lift S_distance q_distance
-- differing(a, b): slots 0:a 1:b 2:total 3:x 4:y
-- norm(a): slots 0:a
local macro_rules | `(tactic| walk_at "pu") => `(tactic| (with_reducible first | refine p_istr ?_ | refine p_cstT ?_ | refine p_kout ?_ | refine p_kin ?_ | refine p_kst ?_ | refine p_ord ?_ | refine p_izip2 ?_ | refine p_izip3 ?_ | (refine p_zip2 (by first | exact seqL | exact seqT | assumption) (by first | exact seqL | exact seqT | assumption) ?_) | (refine p_zip3 (by first | exact seqL | exact seqT | assumption) (by first | exact seqL | exact seqT | assumption) (by first | exact seqL | exact seqT | assumption) ?_) | (refine p_lenS (by omega) ?_)))
local macro_rules | `(tactic| walk_at "pv") => `(tactic| repeat (first | walk_at "p1" | walk_at "pu"))
local macro_rules | `(tactic| walk_at "pw") => `(tactic| repeat (first | walk_at "p1" | walk_at "pu" | walk_at "pd"))

def veD (v : List Int) : Da := .tup (iD v)
def cD (c : List (List Int)) : Da := .lst (c.map veD)
def VsN (n : Nat) (c : List (List Int)) : Prop := ∀ v ∈ c, v.length = n ∧ Bd VM v
def nearI (c : List (List Int)) (v : List Int) : Nat → Nat
  | 0 => 0
  | i + 1 => if distZ (c.getD i []) v < distZ (c.getD (nearI c v i) []) v then i else nearI c v i
def nearZ (c : List (List Int)) (v : List Int) : Nat := nearI c v c.length
theorem nearI_1 {c : List (List Int)} {v : List Int} : nearI c v 1 = 0 := by
  show (if distZ (c.getD 0 []) v < distZ (c.getD 0 []) v then 0 else 0) = 0
  split <;> rfl
theorem nearI_lt {c : List (List Int)} {v : List Int} : ∀ {i : Nat}, 0 < i → nearI c v i < i
  | 0, h => absurd h (Nat.lt_irrefl _)
  | 1, _ => by rw [nearI_1]; decide
  | i + 2, _ => by
    have := nearI_lt (c := c) (v := v) (i := i + 1) (Nat.succ_pos _)
    unfold nearI
    split <;> omega
theorem getD_c {c : List (List Int)} {i : Nat} (h : i < c.length) : (c.map veD)[i]? = some (veD (c.getD i [])) := by
  rw [List.getElem?_map, List.getElem?_eq_getElem h, List.getD_eq_getElem?_getD, List.getElem?_eq_getElem h]; rfl
theorem VsN.at {n : Nat} {c : List (List Int)} (h : VsN n c) {i : Nat} (hi : i < c.length) : (c.getD i []).length = n ∧ Bd VM (c.getD i []) := by
  rw [List.getD_eq_getElem?_getD, List.getElem?_eq_getElem hi]
  exact h _ (List.getElem_mem hi)
def meanZ (n : Nat) (vs : List (List Int)) : List Int := (List.range n).map fun k => ((vs.map fun v => v.getD k 0).sum) / (vs.length : Int)
theorem sum_bd {l : List Int} {b : Int} (h : ∀ x ∈ l, -b ≤ x ∧ x ≤ b) : -b * l.length ≤ l.sum ∧ l.sum ≤ b * l.length := by
  induction l with
  | nil => simp
  | cons x l ih =>
    have h1 := h x (List.mem_cons_self ..)
    have h2 := ih fun y hy => h y (List.mem_cons_of_mem _ hy)
    rw [List.sum_cons, List.length_cons]
    have e1 : b * ((l.length + 1 : Nat) : Int) = b * (l.length : Int) + b := by rw [Int.natCast_add, Int.mul_add]; simp
    have e2 : -b * ((l.length + 1 : Nat) : Int) = -b * (l.length : Int) + -b := by rw [Int.natCast_add, Int.mul_add]; simp
    rw [e1, e2]
    omega
theorem mean_ok {n : Nat} {vs : List (List Int)} (h : VsN n vs) (hn : 0 < vs.length) : (meanZ n vs).length = n ∧ Bd VM (meanZ n vs) := by
  refine ⟨by unfold meanZ; rw [List.length_map, List.length_range], fun x hx => ?_⟩
  unfold meanZ at hx
  obtain ⟨k, hk, rfl⟩ := List.mem_map.mp hx
  have hk := List.mem_range.mp hk
  have sb := sum_bd (l := vs.map fun v => v.getD k 0) (b := VM) fun x hx => by
    obtain ⟨v, hv, rfl⟩ := List.mem_map.mp hx
    obtain ⟨hl, hb⟩ := h v hv
    exact hb.at (by omega)
  rw [List.length_map] at sb
  have hp : (0 : Int) < (vs.length : Int) := by omega
  exact ⟨Int.le_ediv_of_mul_le hp sb.1, Int.ediv_le_of_le_mul hp sb.2⟩
def moveZ (n : Nat) (c vs : List (List Int)) : List (List Int) := (List.range c.length).map fun k => if (0 : Int) < ((vs.filter fun v => decide (nearZ c v = k)).length : Int) then meanZ n (vs.filter fun v => decide (nearZ c v = k)) else c.getD k []
theorem moveZ_len {n : Nat} {c vs : List (List Int)} : (moveZ n c vs).length = c.length := by unfold moveZ; rw [List.length_map, List.length_range]
theorem move_ok {n : Nat} {c vs : List (List Int)} (hc : VsN n c) (hv : VsN n vs) : VsN n (moveZ n c vs) := fun v h => by
  unfold moveZ at h
  obtain ⟨k, hk, rfl⟩ := List.mem_map.mp h
  have hk := List.mem_range.mp hk
  split
  · exact mean_ok (fun v hv' => hv v (List.mem_filter.mp hv').1) (by omega)
  · exact hc.at hk
def trI (n : Nat) (vs : List (List Int)) (m : Nat) : Nat → List (List Int)
  | 0 => (List.range m).map fun i => vs.getD (i * vs.length / m) []
  | r + 1 => moveZ n (trI n vs m r) vs
theorem trI_len {n m : Nat} {vs : List (List Int)} : ∀ r, (trI n vs m r).length = m
  | 0 => by unfold trI; rw [List.length_map, List.length_range]
  | r + 1 => by unfold trI; rw [moveZ_len]; exact trI_len r
theorem tr_at {i m k : Nat} (hi : i < m) (hm : m ≤ k) : i * k / m < k := by
  have : 0 < m := by omega
  rw [Nat.div_lt_iff_lt_mul this, Nat.mul_comm k m]
  exact (Nat.mul_lt_mul_right (by omega)).mpr hi
theorem trI_ok {n m : Nat} {vs : List (List Int)} (h : VsN n vs) (hm : m ≤ vs.length) : ∀ r, VsN n (trI n vs m r)
  | 0 => fun v hv => by
    unfold trI at hv
    obtain ⟨i, hi, rfl⟩ := List.mem_map.mp hv
    exact h.at (tr_at (List.mem_range.mp hi) hm)
  | r + 1 => move_ok (trI_ok h hm r) h
def trainZ (n : Nat) (vs : List (List Int)) (num : Int) (r : Int) : List (List Int) := trI n vs (min num.toNat vs.length) r.toNat
theorem trainZ_ok {n : Nat} {vs : List (List Int)} {num r : Int} (h : VsN n vs) : VsN n (trainZ n vs num r) := trI_ok h (Nat.min_le_right _ _) _
theorem trainZ_len {n : Nat} {vs : List (List Int)} {num r : Int} : (trainZ n vs num r).length = min num.toNat vs.length := trI_len _
theorem rngD_0 (m : Int) : rngD 0 m.toNat = (List.range m.toNat).map fun i : Nat => Da.int (0 + (i : Int)) := rfl
def ps_nearest : PSp := fun ds Q _ => ∃ (n : Nat) (c : List (List Int)) (v : List Int), ds = [cD c, veD v] ∧ VsN n c ∧ VsN n [v] ∧ c.length ≤ 1000 ∧ Q (.int (nearZ c v : Nat))
def sp_nearest (K : PySem.W.Frag) (c : CEnv) : Sp := lift K c ps_nearest
theorem b_nearest {K : PySem.W.Frag} {c : CEnv} : SpSim K c (sp_nearest K c) ps_nearest := spSim_lift
abbrev N_nearest : List Str := ["centres", "vector", "best", "place"]
-- nearest(centres, vector): slots 0:centres 1:vector 2:best 3:place
def T_nearest_b1 (K : PySem.W.Frag) (c : CEnv) : TS :=
    (tIfS (tTest (tOp (uLt K) (tCal (sp_distance K c) (tCons (tOp (uIx K) (tVar 0) (tVar 3)) (tCons (tVar 1) tNil))) (tCal (sp_distance K c) (tCons (tOp (uIx K) (tVar 0) (tVar 2)) (tCons (tVar 1) tNil))))) (tAsg (tVar 3) (gName 2)) tNext)
def T_nearest (K : PySem.W.Frag) (c : CEnv) : TS :=
    (tSeq (tAsg (tC (.int 0)) (gName 2))
    (tSeq (tFor (iRng2 (tCons (tC (.int 1)) (tCons (tCB (uLen K) (tCons (tVar 0) tNil)) tNil))) (gName 3) (T_nearest_b1 K c))
    (tRet (tVar 2))))
def P_nearest_b1 : PSt :=
    (pIfS (pTest (pOp pLt (pCal ps_distance (pCons (pOp pIx (pVar 0) (pVar 3)) (pCons (pVar 1) pNil))) (pCal ps_distance (pCons (pOp pIx (pVar 0) (pVar 2)) (pCons (pVar 1) pNil))))) (pAsg (pVar 3) (pgName 2)) pNext)
def P_nearest : PSt :=
    (pSeq (pAsg (pC (.int 0)) (pgName 2))
    (pSeq (pFor (piRng2 (pCons (pC (.int 1)) (pCons (pCB pLen (pCons (pVar 0) pNil)) pNil))) (pgName 3) P_nearest_b1)
    (pRet (pVar 2))))
theorem S_nearest {K : PySem.W.Frag} {c : CEnv} : SimS ⟨K, c, W0, fun _ _ => False⟩ (T_nearest K c) (P_nearest) := by
  unfold T_nearest P_nearest T_nearest_b1 P_nearest_b1
  exact (sim_seq (sim_asg (sim_int _) (sim_gName 2))
    (sim_seq (sim_for (sim_iRng2 (sim_cons (sim_int _) (sim_cons (sim_cb sim_len (sim_cons (sim_var 0) sim_nil)) sim_nil))) (sim_gName 3) (sim_ifS (sim_test (sim_op sim_lt (sim_cal b_distance (sim_cons (sim_op sim_ix (sim_var 0) (sim_var 3)) (sim_cons (sim_var 1) sim_nil))) (sim_cal b_distance (sim_cons (sim_op sim_ix (sim_var 0) (sim_var 2)) (sim_cons (sim_var 1) sim_nil))))) (sim_asg (sim_var 3) (sim_gName 2)) sim_next))
    (sim_ret (sim_var 2))))

theorem q_nearest : ∀ ds Q E, ps_nearest ds Q E → ds.length = 2 ∧ P_nearest { nx := fun _ => Q .non, rt := Q } (startP 4 ds) := by
  rintro _ Q E ⟨n, c, v, rfl, hc, hv, hl, q⟩
  refine ⟨rfl, ?_⟩
  show P_nearest _ [some (.d (.lst (c.map veD))), some (.d (veD v)), none, none]
  unfold P_nearest P_nearest_b1
  have vb := hv v (List.mem_cons_self ..)
  walk_at "pz"
  rw [List.length_map]
  refine p_rng2 (by omega) ?_
  refine p_loopR (fun j ρ => ∃ x3 : Option Pv, ρ = [some (.d (.lst (c.map veD))), some (.d (veD v)), some (.d (.int (nearI c v (j + 1) : Nat))), x3]) ⟨_, by rw [nearI_1]; rfl⟩ ?_ ?_
  · rintro j _ hj ⟨x3, rfl⟩
    have hj : j + 1 < c.length := by omega
    have lt := nearI_lt (c := c) (v := v) (i := j + 1) (Nat.succ_pos _)
    have c1 := hc.at hj
    have c2 := hc.at (show nearI c v (j + 1) < c.length by omega)
    have st : nearI c v (j + 1 + 1) = if distZ (c.getD (j + 1) []) v < distZ (c.getD (nearI c v (j + 1)) []) v then j + 1 else nearI c v (j + 1) := rfl
    walk_at "pz"
    rw [show (1 : Int) + (j : Int) = ((j + 1 : Nat) : Int) by omega]
    refine p_ixL (atI_s (getD_c hj)) ?_
    walk_at "pz"
    refine ⟨_, _, c.getD (j + 1) [], v, rfl, .inr rfl, .inr rfl, by rw [c1.1, vb.1], c1.2, vb.2, ?_⟩
    walk_at "pz"
    refine p_ixL (atI_s (getD_c (show nearI c v (j + 1) < c.length by omega))) ?_
    walk_at "pz"
    refine ⟨_, _, c.getD (nearI c v (j + 1)) [], v, rfl, .inr rfl, .inr rfl, by rw [c2.1, vb.1], c2.2, vb.2, ?_⟩
    walk_at "pz"
    refine z_itD (fun h => ?_) (fun h => ?_)
    · walk_at "pz"
      rw [if_pos h] at st
      rw [st]
      exact ⟨_, rfl⟩
    · rw [if_neg h] at st
      rw [st]
      exact ⟨_, rfl⟩
  rintro _ ⟨x3, rfl⟩
  walk_at "pz"
  unfold nearZ at q
  by_cases h0 : c.length = 0
  · rw [show ((c.length : Int) - 1).toNat + 1 = 1 by omega, nearI_1]
    rw [h0] at q
    exact q
  · rw [show ((c.length : Int) - 1).toNat + 1 = c.length by omega]
    exact q
theorem w_nearest {K : PySem.W.Frag} {c : CEnv} : Wd (T_nearest K c) N_nearest 2 (sp_nearest K c) := wd_lift S_nearest q_nearest
def ps_mean : PSp := fun ds Q _ => ∃ (n : Nat) (vs : List (List Int)), ds = [cD vs] ∧ 0 < vs.length ∧ VsN n vs ∧ vs.length ≤ 1000 ∧ n ≤ 1000 ∧ Q (veD (meanZ n vs))
def sp_mean (K : PySem.W.Frag) (c : CEnv) : Sp := lift K c ps_mean
theorem b_mean {K : PySem.W.Frag} {c : CEnv} : SpSim K c (sp_mean K c) ps_mean := spSim_lift
abbrev N_mean : List Str := ["vectors", "vector", "k"]
-- mean(vectors): slots 0:vectors 1:vector 2:k
def T_mean (K : PySem.W.Frag) : TS :=
    (tRet (tCB (uTuple K) (tCons (tLc (iRng1 (tCons (tCB (uLen K) (tCons (tOp (uIx K) (tVar 0) (tC (.int 0))) tNil)) tNil)) (gName 2) tYes (tOp uDiv (tCB (rSum K) (tCons (tLc (iSq K (tVar 0)) (gName 1) tYes (tOp (uIx K) (tVar 1) (tVar 2)) [1]) tNil)) (tCB (uLen K) (tCons (tVar 0) tNil))) [2]) tNil)))
def P_mean : PSt :=
    (pRet (pCB pTuple (pCons (pLc (piRng1 (pCons (pCB pLen (pCons (pOp pIx (pVar 0) (pC (.int 0))) pNil)) pNil)) (pgName 2) pYes (pOp pDiv (pCB pSum (pCons (pLc (piSq (pVar 0)) (pgName 1) pYes (pOp pIx (pVar 1) (pVar 2)) [1]) pNil)) (pCB pLen (pCons (pVar 0) pNil))) [2]) pNil)))
theorem S_mean {K : PySem.W.Frag} {c : CEnv} : SimS ⟨K, c, W0, fun _ _ => False⟩ (T_mean K) (P_mean) := by
  unfold T_mean P_mean
  exact (sim_ret (sim_cb sim_tuple (sim_cons (sim_lc (sim_iRng1 (sim_cons (sim_cb sim_len (sim_cons (sim_op sim_ix (sim_var 0) (sim_int _)) sim_nil)) sim_nil)) (sim_gName 2) (by decide) sim_yes (sim_op sim_div (sim_cb sim_sum (sim_cons (sim_lc (sim_iSq (sim_var 0)) (sim_gName 1) (by decide) sim_yes (sim_op sim_ix (sim_var 1) (sim_var 2))) sim_nil)) (sim_cb sim_len (sim_cons (sim_var 0) sim_nil)))) sim_nil)))

theorem q_mean : ∀ ds Q E, ps_mean ds Q E → ds.length = 1 ∧ P_mean { nx := fun _ => Q .non, rt := Q } (startP 3 ds) := by
  rintro _ Q E ⟨n, vs, rfl, h0, hv, hl, hn, q⟩
  refine ⟨rfl, ?_⟩
  show P_mean _ [some (.d (.lst (vs.map veD))), none, none]
  unfold P_mean
  walk_at "pz"
  have v0 := hv.at h0
  refine p_ixL (show atI (vs.map veD) 0 = some (veD (vs.getD 0 [])) from atI_s (j := 0) (getD_c h0)) ?_
  unfold veD
  walk_at "pz"
  rw [List.length_map, v0.1]
  refine p_rng1 (by omega) ?_
  rw [rngD_0, Int.toNat_natCast]
  refine p_compM (fun i : Nat => Da.int (0 + (i : Int))) (fun k => .int (((vs.map fun v => v.getD k 0).sum) / (vs.length : Int))) (by rw [List.length_range]; omega) (fun k R hk kk => ?_) ?_
  · have hk := List.mem_range.mp hk
    rw [show (0 : Int) + (k : Int) = ((k : Nat) : Int) by omega]
    walk_at "pz"
    refine p_compM (fun v => Da.tup (iD v)) (fun v => .int (v.getD k 0)) (by omega) (fun v R hv' k2 => ?_) ?_
    · have hl' := (hv v hv').1
      walk_at "pz"
      refine p_ixT (atI_s (show (iD v)[k]? = some (.int (v.getD k 0)) by unfold iD; rw [List.getElem?_map, List.getElem?_eq_getElem (by omega), List.getD_eq_getElem?_getD, List.getElem?_eq_getElem (by omega)]; rfl)) ?_
      exact k2
    walk_at "pz"
    refine ⟨vs.map fun v => v.getD k 0, by rw [List.map_map]; rfl, ?_⟩
    walk_at "pz"
    rw [List.length_map]
    refine p_div (by exact div1 (by omega)) ?_
    exact kk
  walk_at "pz"
  unfold veD meanZ iD at q
  rw [List.map_map] at q
  exact q
theorem w_mean {K : PySem.W.Frag} {c : CEnv} : Wd (T_mean K) N_mean 1 (sp_mean K c) := wd_lift S_mean q_mean
def ps_move : PSp := fun ds Q _ => ∃ (n : Nat) (c vs : List (List Int)), ds = [cD c, cD vs] ∧ VsN n c ∧ VsN n vs ∧ c.length ≤ 1000 ∧ vs.length ≤ 1000 ∧ n ≤ 1000 ∧ Q (cD (moveZ n c vs))
def sp_move (K : PySem.W.Frag) (c : CEnv) : Sp := lift K c ps_move
theorem b_move {K : PySem.W.Frag} {c : CEnv} : SpSim K c (sp_move K c) ps_move := spSim_lift
abbrev N_move : List Str := ["centres", "vectors", "places", "vector", "moved", "place", "centre", "own", "at"]
-- move(centres, vectors): slots 0:centres 1:vectors 2:places 3:vector 4:moved 5:place 6:centre 7:own 8:at
def T_move_b1 (K : PySem.W.Frag) (c : CEnv) : TS :=
    (tSeq (tAsg (tLc (iZip2 K (tCons (tVar 1) (tCons (tVar 2) tNil))) (gTup K 2 (gCons (gName 3) (gCons (gName 8) gNil))) (tTest (tOp (uEq K) (tVar 8) (tVar 5))) (tVar 3) [3, 8]) (gName 7))
    (tDrop (tBM K "list" rAppend (tVar 4) (tCons (tIf (tTest (tOp uGt (tCB (uLen K) (tCons (tVar 7) tNil)) (tC (.int 0)))) (tCal (sp_mean K c) (tCons (tVar 7) tNil)) (tVar 6)) tNil))))
def T_move (K : PySem.W.Frag) (c : CEnv) : TS :=
    (tSeq (tAsg (tLc (iSq K (tVar 1)) (gName 3) tYes (tCal (sp_nearest K c) (tCons (tVar 0) (tCons (tVar 3) tNil))) [3]) (gName 2))
    (tSeq (tAsg (tLst tNil) (gName 4))
    (tSeq (tFor (iEnumA K (tCons (tVar 0) tNil)) (gTup K 2 (gCons (gName 5) (gCons (gName 6) gNil))) (T_move_b1 K c))
    (tRet (tVar 4)))))
def P_move_b1 : PSt :=
    (pSeq (pAsg (pLc (piZip2 (pCons (pVar 1) (pCons (pVar 2) pNil))) (pgTup 2 (pgCons (pgName 3) (pgCons (pgName 8) pgNil))) (pTest (pOp pEq (pVar 8) (pVar 5))) (pVar 3) [3, 8]) (pgName 7))
    (pApp 4 (pIf (pTest (pOp pGt (pCB pLen (pCons (pVar 7) pNil)) (pC (.int 0)))) (pCal ps_mean (pCons (pVar 7) pNil)) (pVar 6))))
def P_move : PSt :=
    (pSeq (pAsg (pLc (piSq (pVar 1)) (pgName 3) pYes (pCal ps_nearest (pCons (pVar 0) (pCons (pVar 3) pNil))) [3]) (pgName 2))
    (pSeq (pAsgO 4 (pNewL pNil))
    (pSeq (pFor (piEnum (pCons (pVar 0) pNil)) (pgTup 2 (pgCons (pgName 5) (pgCons (pgName 6) pgNil))) P_move_b1)
    (pFrz 4 (pRet (pVar 4))))))
theorem S_move {K : PySem.W.Frag} {c : CEnv} : SimS ⟨K, c, W0, fun _ _ => False⟩ (T_move K c) (P_move) := by
  unfold T_move P_move T_move_b1 P_move_b1
  exact (sim_seq (sim_asg (sim_lc (sim_iSq (sim_var 1)) (sim_gName 3) (by decide) sim_yes (sim_cal b_nearest (sim_cons (sim_var 0) (sim_cons (sim_var 3) sim_nil)))) (sim_gName 2))
    (sim_seq (sim_asgO (simF_lst sim_nil))
    (sim_seq (sim_for (sim_iEnum (sim_cons (sim_var 0) sim_nil)) (sim_gTup (sim_gCons (sim_gName 5) (sim_gCons (sim_gName 6) sim_gNil))) (sim_seq (sim_asg (sim_lc (sim_iZip2 (sim_cons (sim_var 1) (sim_cons (sim_var 2) sim_nil))) (sim_gTup (sim_gCons (sim_gName 3) (sim_gCons (sim_gName 8) sim_gNil))) (by decide) (sim_test (sim_op sim_eq (sim_var 8) (sim_var 5))) (sim_var 3)) (sim_gName 7))
    (sim_app (sim_if (sim_test (sim_op sim_gt (sim_cb sim_len (sim_cons (sim_var 7) sim_nil)) (sim_int _))) (sim_cal b_mean (sim_cons (sim_var 7) sim_nil)) (sim_var 6)))))
    (sim_frz (sim_ret (sim_var 4))))))

theorem q_move : ∀ ds Q E, ps_move ds Q E → ds.length = 2 ∧ P_move { nx := fun _ => Q .non, rt := Q } (startP 9 ds) := by
  rintro _ Q E ⟨n, c, vs, rfl, hc, hv, hl, hl2, hn, q⟩
  refine ⟨rfl, ?_⟩
  show P_move _ [some (.d (.lst (c.map veD))), some (.d (.lst (vs.map veD))), none, none, none, none, none, none, none]
  unfold P_move P_move_b1
  walk_at "pz"
  refine p_compM veD (fun v => .int (nearZ c v : Nat)) (by omega) (fun v R hv' k => ?_) ?_
  · walk_at "pz"
    exact ⟨n, c, v, rfl, hc, fun u hu => by rw [List.mem_singleton.mp hu]; exact hv v hv', hl, k⟩
  walk_at "pz"
  refine p_loop (fun i ρ => ∃ x3 x5 x6 x7 x8 : Option Pv, ρ = [some (.d (.lst (c.map veD))), some (.d (.lst (vs.map veD))), some (.d (.lst (vs.map fun v => .int (nearZ c v : Nat)))), x3, some (.own (((moveZ n c vs).take i).map veD)), x5, x6, x7, x8]) ⟨_, _, _, _, _, rfl⟩ ?_ ?_
  · rintro i x _ hx ⟨x3, x5, x6, x7, x8, rfl⟩
    obtain ⟨y, hy, rfl⟩ := enumD_get hx
    rw [List.getElem?_map] at hy
    obtain ⟨u, hu, rfl⟩ := Option.map_eq_some_iff.mp hy
    have hi := (List.getElem?_eq_some_iff.mp hu).1
    have gu : c.getD i [] = u := by rw [List.getD_eq_getElem?_getD, hu]; rfl
    have mv : (moveZ n c vs)[i]? = some (if (0 : Int) < ((vs.filter fun v => decide (nearZ c v = i)).length : Int) then meanZ n (vs.filter fun v => decide (nearZ c v = i)) else u) := by
      unfold moveZ
      rw [List.getElem?_map, List.getElem?_range hi, ← gu]; rfl
    have ml := moveZ_len (n := n) (c := c) (vs := vs)
    walk_at "pz"
    refine p_izip2 ?_
    walk_at "pz"
    refine p_zip2 (.inl rfl) (.inl rfl) ?_
    rw [show zipD (vs.map veD) (vs.map fun v => .int (nearZ c v : Nat)) = vs.map fun v => .tup [veD v, .int (nearZ c v : Nat)] by unfold zipD; rw [List.zip_map', List.map_map]; rfl]
    refine p_filt (g := veD) (fun v => decide (nearZ c v = i)) (by omega) (fun j v k1 k2 hj y no => ?_) ?_
    · walk_at "pz"
      by_cases h : nearZ c v = i
      · rw [decide_eq_true (show ((nearZ c v : Nat) : Int) = ((i : Nat) : Int) by omega)]
        walk_at "px"
        exact y (decide_eq_true h)
      · rw [decide_eq_false (show ¬ ((nearZ c v : Nat) : Int) = ((i : Nat) : Int) by omega)]
        walk_at "px"
        exact no (decide_eq_false h)
    walk_at "pz"
    rotate_left
    · rw [List.length_map, List.length_take]; omega
    rw [List.length_map]
    have fl : (vs.filter fun v => decide (nearZ c v = i)).length ≤ vs.length := List.length_filter_le _ _
    refine z_itD (fun h => ?_) (fun h => ?_)
    · walk_at "pz"
      refine ⟨n, _, rfl, by omega, fun v hv' => hv v (List.mem_filter.mp hv').1, by omega, hn, ?_⟩
      rw [if_pos h] at mv
      rw [show ((moveZ n c vs).take (i + 1)).map veD = ((moveZ n c vs).take i).map veD ++ [veD (meanZ n (vs.filter fun v => decide (nearZ c v = i)))] by rw [List.take_add_one, mv, List.map_append]; rfl]
      exact ⟨_, _, _, _, _, rfl⟩
    · walk_at "pz"
      rw [if_neg h] at mv
      rw [show ((moveZ n c vs).take (i + 1)).map veD = ((moveZ n c vs).take i).map veD ++ [veD u] by rw [List.take_add_one, mv, List.map_append]; rfl]
      exact ⟨_, _, _, _, _, rfl⟩
  rintro _ ⟨x3, x5, x6, x7, x8, rfl⟩
  rw [show (enumD (c.map veD)).length = c.length by unfold enumD; rw [List.length_mapIdx, List.length_map]]
  rw [List.take_of_length_le (by rw [moveZ_len]; exact Nat.le_refl _)]
  walk_at "pz"
  exact q
theorem w_move {K : PySem.W.Frag} {c : CEnv} : Wd (T_move K c) N_move 2 (sp_move K c) := wd_lift S_move q_move
def ps_train : PSp := fun ds Q _ => ∃ (n : Nat) (vs : List (List Int)) (num r : Int), ds = [cD vs, .int num, .int r] ∧ VsN n vs ∧ vs.length ≤ 1000 ∧ n ≤ 1000 ∧ 1 ≤ num ∧ num ≤ 1000 ∧ 0 ≤ r ∧ r ≤ 1000 ∧ Q (cD (trainZ n vs num r))
def sp_train (K : PySem.W.Frag) (c : CEnv) : Sp := lift K c ps_train
theorem b_train {K : PySem.W.Frag} {c : CEnv} : SpSim K c (sp_train K c) ps_train := spSim_lift
abbrev N_train : List Str := ["vectors", "number", "rounds", "many", "centres", "i", "_"]
-- train(vectors, number, rounds): slots 0:vectors 1:number 2:rounds 3:many 4:centres 5:i 6:_
def T_train_b1 (K : PySem.W.Frag) (c : CEnv) : TS :=
    (tAsg (tCal (sp_move K c) (tCons (tVar 4) (tCons (tVar 0) tNil))) (gName 4))
def T_train (K : PySem.W.Frag) (c : CEnv) : TS :=
    (tSeq (tAsg (tCB uMin (tCons (tVar 1) (tCons (tCB (uLen K) (tCons (tVar 0) tNil)) tNil))) (gName 3))
    (tSeq (tAsg (tLc (iRng1 (tCons (tVar 3) tNil)) (gName 5) tYes (tCB (uTuple K) (tCons (tOp (uIx K) (tVar 0) (tOp uDiv (tOp uMul (tVar 5) (tCB (uLen K) (tCons (tVar 0) tNil))) (tVar 3))) tNil)) [5]) (gName 4))
    (tCut (tIfS (tTest (tOp uGt (tVar 3) (tC (.int 0)))) (tFor (iRng1 (tCons (tVar 2) tNil)) (gName 6) (T_train_b1 K c)) tNext)
    (tRet (tVar 4)))))
def P_train_b1 : PSt :=
    (pAsg (pCal ps_move (pCons (pVar 4) (pCons (pVar 0) pNil))) (pgName 4))
def P_train : PSt :=
    (pSeq (pAsg (pCB pMin (pCons (pVar 1) (pCons (pCB pLen (pCons (pVar 0) pNil)) pNil))) (pgName 3))
    (pSeq (pAsg (pLc (piRng1 (pCons (pVar 3) pNil)) (pgName 5) pYes (pCB pTuple (pCons (pOp pIx (pVar 0) (pOp pDiv (pOp pMul (pVar 5) (pCB pLen (pCons (pVar 0) pNil))) (pVar 3))) pNil)) [5]) (pgName 4))
    (pCut (pIfS (pTest (pOp pGt (pVar 3) (pC (.int 0)))) (pFor (piRng1 (pCons (pVar 2) pNil)) (pgName 6) P_train_b1) pNext)
    (pRet (pVar 4)))))
theorem S_train {K : PySem.W.Frag} {c : CEnv} : SimS ⟨K, c, W0, fun _ _ => False⟩ (T_train K c) (P_train) := by
  unfold T_train P_train T_train_b1 P_train_b1
  exact (sim_seq (sim_asg (sim_cb sim_min (sim_cons (sim_var 1) (sim_cons (sim_cb sim_len (sim_cons (sim_var 0) sim_nil)) sim_nil))) (sim_gName 3))
    (sim_seq (sim_asg (sim_lc (sim_iRng1 (sim_cons (sim_var 3) sim_nil)) (sim_gName 5) (by decide) sim_yes (sim_cb sim_tuple (sim_cons (sim_op sim_ix (sim_var 0) (sim_op sim_div (sim_op sim_mul (sim_var 5) (sim_cb sim_len (sim_cons (sim_var 0) sim_nil))) (sim_var 3))) sim_nil))) (sim_gName 4))
    (sim_cut (sim_ifS (sim_test (sim_op sim_gt (sim_var 3) (sim_int _))) (sim_for (sim_iRng1 (sim_cons (sim_var 2) sim_nil)) (sim_gName 6) (sim_asg (sim_cal b_move (sim_cons (sim_var 4) (sim_cons (sim_var 0) sim_nil))) (sim_gName 4))) sim_next)
    (sim_ret (sim_var 4)))))

theorem q_train : ∀ ds Q E, ps_train ds Q E → ds.length = 3 ∧ P_train { nx := fun _ => Q .non, rt := Q } (startP 7 ds) := by
  rintro _ Q E ⟨n, vs, num, r, rfl, hv, hl, hn, n1, n2, r1, r2, q⟩
  refine ⟨rfl, ?_⟩
  show P_train _ [some (.d (.lst (vs.map veD))), some (.d (.int num)), some (.d (.int r)), none, none, none, none]
  unfold P_train P_train_b1
  obtain ⟨m, hm⟩ : ∃ m, m = min num.toNat vs.length := ⟨_, rfl⟩
  have ml : m ≤ vs.length := by omega
  walk_at "pz"
  rw [List.length_map]
  rw [show (if (vs.length : Int) < num then (vs.length : Int) else num) = ((m : Nat) : Int) by split <;> omega]
  refine p_rng1 (by omega) ?_
  rw [rngD_0, Int.toNat_natCast]
  refine p_compM (fun i : Nat => Da.int (0 + (i : Int))) (fun i => veD (vs.getD (i * vs.length / m) [])) (by rw [List.length_range]; omega) (fun i R hi k => ?_) ?_
  · have hi := List.mem_range.mp hi
    rw [show (0 : Int) + (i : Int) = ((i : Nat) : Int) by omega]
    walk_at "pz"
    rw [List.length_map]
    rw [show ((i : Nat) : Int) * ((vs.length : Nat) : Int) / ((m : Nat) : Int) = ((i * vs.length / m : Nat) : Int) by simp]
    refine p_ixL (atI_s (getD_c (tr_at hi ml))) ?_
    unfold veD
    walk_at "pz"
    exact k
  walk_at "pz"
  have fin : ∀ x6 : Option Pv, (pRet (pVar 4)) { nx := fun _ => Q .non, rt := Q } [some (.d (.lst (vs.map veD))), some (.d (.int num)), some (.d (.int r)), some (.d (.int (m : Nat))), some (.d (cD (trI n vs m r.toNat))), none, x6] := fun x6 => by
    walk_at "pz"
    unfold trainZ at q
    rw [← hm] at q
    exact q
  refine p_cutI ?_
  walk_at "pz"
  refine z_itD (fun h => ?_) (fun h => ?_)
  · walk_at "pz"
    refine p_rng1 (by omega) ?_
    refine p_loopR (fun j ρ => ∃ x6 : Option Pv, ρ = [some (.d (.lst (vs.map veD))), some (.d (.int num)), some (.d (.int r)), some (.d (.int (m : Nat))), some (.d (cD (trI n vs m j))), none, x6]) ⟨_, by unfold trI cD; rw [List.map_map]; rfl⟩ ?_ ?_
    · rintro j _ hj ⟨x6, rfl⟩
      walk_at "pz"
      exact ⟨n, _, vs, rfl, trI_ok hv ml j, hv, by rw [trI_len]; omega, hl, hn, _, rfl⟩
    rintro _ ⟨x6, rfl⟩
    exact fin x6
  · have m0 : m = 0 := by omega
    walk_at "pz"
    have e : trI n vs m r.toNat = [] := List.eq_nil_of_length_eq_zero (by rw [trI_len]; exact m0)
    unfold trainZ at q
    rw [← hm, e] at q
    rw [m0]
    exact q
theorem w_train {K : PySem.W.Frag} {c : CEnv} : Wd (T_train K c) N_train 3 (sp_train K c) := wd_lift S_train q_train

local macro_rules | `(tactic| walk_at "pu") => `(tactic| (with_reducible first | refine p_istr ?_ | refine p_cstT ?_ | refine p_kout ?_ | refine p_kin ?_ | refine p_kst ?_ | refine p_ord ?_ | refine p_izip2 ?_ | refine p_izip3 ?_ | (refine p_zip2 (by first | exact seqL | exact seqT | assumption) (by first | exact seqL | exact seqT | assumption) ?_) | (refine p_zip3 (by first | exact seqL | exact seqT | assumption) (by first | exact seqL | exact seqT | assumption) (by first | exact seqL | exact seqT | assumption) ?_) | (refine p_lenS (by omega) ?_)))
local macro_rules | `(tactic| walk_at "pv") => `(tactic| repeat (first | walk_at "p1" | walk_at "pu"))
local macro_rules | `(tactic| walk_at "pw") => `(tactic| repeat (first | walk_at "p1" | walk_at "pu" | walk_at "pd"))

abbrev LKK : List Str := ["centres", "rounds", "cells", "size"]
noncomputable def leD (c : List (List Int)) (p : Nat) : Nat → Nat → Bool := PySem.W.dataLe false fun i => keyD (.int (distZ (c.getD i []) (c.getD p [])))
def othN (p i : Nat) : List Nat := (List.range i).filter fun j => !decide (j = p)
noncomputable def ordD (c : List (List Int)) (p i : Nat) : List Nat := (othN p i).mergeSort (leD c p)
noncomputable def neighZ (c : List (List Int)) (p : Nat) (m : Int) : List (List Int) := ((ordD c p c.length).take m.toNat).map fun i => c.getD i []
theorem oth_mem {p i j : Nat} (h : j ∈ othN p i) : j < i ∧ j ≠ p := by
  obtain ⟨h1, h2⟩ := List.mem_filter.mp h
  exact ⟨List.mem_range.mp h1, by simpa using h2⟩
theorem ordD_mem {c : List (List Int)} {p i j : Nat} (h : j ∈ ordD c p i) : j < i ∧ j ≠ p := oth_mem ((List.mergeSort_perm _ _).mem_iff.mp h)
theorem ordD_len (c : List (List Int)) (p i : Nat) : (ordD c p i).length ≤ i := by
  unfold ordD othN
  rw [List.length_mergeSort]
  have := List.length_filter_le (fun j => !decide (j = p)) (List.range i)
  rw [List.length_range] at this
  exact this
theorem neigh_len {c : List (List Int)} {p : Nat} {m : Int} : (neighZ c p m).length ≤ c.length := by
  unfold neighZ
  rw [List.length_map]
  exact Nat.le_trans (List.length_take_le' ..) (ordD_len c p c.length)
theorem alk_int {α : Type} (l : List α) (f : α → Int) : PySem.W.AllAlike ((l.map fun a => Da.int (f a)).map keyD) := by
  intro d hd e he
  rw [List.map_map] at hd he
  obtain ⟨a, _, rfl⟩ := List.mem_map.mp hd
  obtain ⟨b, _, rfl⟩ := List.mem_map.mp he
  rfl
theorem srb_int {α : Type} (l : List α) (f : α → Int) : PySem.W.Sortable ((l.map fun a => Da.int (f a)).map keyD) := .inr fun d hd => by
  rw [List.map_map] at hd
  obtain ⟨a, _, rfl⟩ := List.mem_map.mp hd
  exact ⟨(fun z => nomatch z), fun _ z => nomatch z⟩
def skC (nb : List (List Int)) (u : List Int) : SkF := ⟨none, [(0, u)], nb.map fun rv => (u, rv)⟩
noncomputable def S0 (c : List (List Int)) (ce : Int) : List SkF := (List.range c.length).map fun k => skC (neighZ c k ce) (c.getD k [])
def stp3 (k : Nat) (sz : Int) (st : List SkF × List Int × Nat) (a : Nat) : List SkF × List Int × Nat :=
  ((if (st.2.2 : Int) % sz = 0 then st.1 ++ [⟨some k, [], []⟩] else st.1), st.2.1.set a (((if (st.2.2 : Int) % sz = 0 then st.1 ++ [⟨some k, [], []⟩] else st.1).length : Int) - 1), st.2.2 + 1)
def ownN (c vs : List (List Int)) (k j : Nat) : List Nat := (List.range j).filter fun i => decide (nearZ c (vs.getD i []) = k)
def outZ (c vs : List (List Int)) (sz : Int) (S : List SkF) : Nat → List SkF × List Int
  | 0 => (S, List.replicate vs.length 0)
  | k + 1 => (((ownN c vs k vs.length).foldl (stp3 k sz) ((outZ c vs sz S k).1, (outZ c vs sz S k).2, 0)).1, ((ownN c vs k vs.length).foldl (stp3 k sz) ((outZ c vs sz S k).1, (outZ c vs sz S k).2, 0)).2.1)
theorem stp_fold {k : Nat} {sz : Int} : ∀ (ow : List Nat) (st : List SkF × List Int × Nat), (ow.foldl (stp3 k sz) st).2.2 = st.2.2 + ow.length ∧ (ow.foldl (stp3 k sz) st).2.1.length = st.2.1.length ∧ (ow.foldl (stp3 k sz) st).1.length ≤ st.1.length + ow.length
  | [], st => ⟨rfl, rfl, Nat.le_refl _⟩
  | a :: ow, st => by
    obtain ⟨h1, h2, h3⟩ := stp_fold ow (stp3 k sz st a)
    rw [List.foldl_cons]
    refine ⟨?_, ?_, ?_⟩
    · rw [h1]; show st.2.2 + 1 + ow.length = _; rw [List.length_cons]; omega
    · rw [h2]; show (st.2.1.set _ _).length = _; rw [List.length_set]
    · refine Nat.le_trans h3 ?_
      show (if (st.2.2 : Int) % sz = 0 then st.1 ++ [⟨some k, [], []⟩] else st.1).length + ow.length ≤ _
      rw [List.length_cons]
      split
      · rw [List.length_append]; simp; omega
      · omega
theorem own_len (c vs : List (List Int)) (k j : Nat) : (ownN c vs k j).length ≤ j := by
  unfold ownN
  have := List.length_filter_le (fun i => decide (nearZ c (vs.getD i []) = k)) (List.range j)
  rw [List.length_range] at this
  exact this
theorem own_mem {c vs : List (List Int)} {k j a : Nat} (h : a ∈ ownN c vs k j) : a < j ∧ nearZ c (vs.getD a []) = k := by
  obtain ⟨h1, h2⟩ := List.mem_filter.mp h
  exact ⟨List.mem_range.mp h1, of_decide_eq_true h2⟩
theorem out_len {c vs : List (List Int)} {sz : Int} {S : List SkF} : ∀ k, (outZ c vs sz S k).2.length = vs.length ∧ (outZ c vs sz S k).1.length ≤ S.length + k * vs.length
  | 0 => ⟨List.length_replicate, by show S.length ≤ _; omega⟩
  | k + 1 => by
    obtain ⟨h1, h2⟩ := out_len (c := c) (vs := vs) (sz := sz) (S := S) k
    obtain ⟨_, f2, f3⟩ := stp_fold (k := k) (sz := sz) (ownN c vs k vs.length) ((outZ c vs sz S k).1, (outZ c vs sz S k).2, 0)
    refine ⟨f2.trans h1, Nat.le_trans f3 ?_⟩
    have := own_len c vs k vs.length
    have e : (k + 1) * vs.length = k * vs.length + vs.length := Nat.succ_mul ..
    show (outZ c vs sz S k).1.length + _ ≤ _
    omega
theorem S0_len (c : List (List Int)) (ce : Int) : (S0 c ce).length = c.length := by unfold S0; rw [List.length_map, List.length_range]
theorem own_homes {c vs : List (List Int)} : ((enumD (vs.map fun v => Da.int (nearZ c v : Nat)))) = (List.range vs.length).map fun i => .tup [.int (i : Nat), .int (nearZ c (vs.getD i []) : Nat)] := by
  rw [enumD_range, List.length_map]
  refine List.map_congr_left fun i hi => ?_
  have hi := List.mem_range.mp hi
  rw [List.getD_eq_getElem?_getD, List.getElem?_map, List.getElem?_eq_getElem hi, List.getD_eq_getElem?_getD, List.getElem?_eq_getElem hi]; rfl
def recR (x : Da × List Int) : Da := recN x.1 (iD x.2) [] []
theorem recR_ins (x : Da × List Int) : recR x = .ins "Record" RK [x.1, .tup (iD x.2), .tup [], .tup []] := rfl
def ps_neighbours : PSp := fun ds Q _ => ∃ (n : Nat) (c : List (List Int)) (p : Nat) (m : Int), ds = [cD c, .int (p : Nat), .int m] ∧ VsN n c ∧ p < c.length ∧ c.length ≤ 1000 ∧ 0 ≤ m ∧ Q (cD (neighZ c p m))
def sp_neighbours (K : PySem.W.Frag) (c : CEnv) : Sp := lift K c ps_neighbours
theorem b_neighbours {K : PySem.W.Frag} {c : CEnv} : SpSim K c (sp_neighbours K c) ps_neighbours := spSim_lift
abbrev N_neighbours : List Str := ["centres", "place", "cells", "others", "other", "ordered"]
-- neighbours(centres, place, cells): slots 0:centres 1:place 2:cells 3:others 4:other 5:ordered
def T_neighbours (K : PySem.W.Frag) (c : CEnv) : TS :=
    (tSeq (tAsg (tLc (iRng1 (tCons (tCB (uLen K) (tCons (tVar 0) tNil)) tNil)) (gName 4) (tTest (tOp (uNe K) (tVar 4) (tVar 1))) (tVar 4) [4]) (gName 3))
    (tSeq (tAsg (ZL.tSrtK K c.tb 4 (tVar 3) (tCal (sp_distance K c) (tCons (tOp (uIx K) (tVar 0) (tVar 4)) (tCons (tOp (uIx K) (tVar 0) (tVar 1)) tNil)))) (gName 5))
    (tRet (tLc (iSq K (tSl (uSl K) (tVar 5) tNoPart (tPart (tVar 2)))) (gName 4) tYes (tOp (uIx K) (tVar 0) (tVar 4)) [4]))))
def P_neighbours : PSt :=
    (pSeq (pAsg (pLc (piRng1 (pCons (pCB pLen (pCons (pVar 0) pNil)) pNil)) (pgName 4) (pTest (pOp pNe (pVar 4) (pVar 1))) (pVar 4) [4]) (pgName 3))
    (pSeq (pAsg (pSrtK 4 (pVar 3) (pCal ps_distance (pCons (pOp pIx (pVar 0) (pVar 4)) (pCons (pOp pIx (pVar 0) (pVar 1)) pNil)))) (pgName 5))
    (pRet (pLc (piSq (pSl (pVar 5) pNoPart (pPart (pVar 2)))) (pgName 4) pYes (pOp pIx (pVar 0) (pVar 4)) [4]))))
theorem S_neighbours {K : PySem.W.Frag} {c : CEnv} : SimS ⟨K, c, W0, fun _ _ => False⟩ (T_neighbours K c) (P_neighbours) := by
  unfold T_neighbours P_neighbours
  exact (sim_seq (sim_asg (sim_lc (sim_iRng1 (sim_cons (sim_cb sim_len (sim_cons (sim_var 0) sim_nil)) sim_nil)) (sim_gName 4) (by decide) (sim_test (sim_op sim_ne (sim_var 4) (sim_var 1))) (sim_var 4)) (sim_gName 3))
    (sim_seq (sim_asg (sim_srtK (sim_var 3) (sim_cal b_distance (sim_cons (sim_op sim_ix (sim_var 0) (sim_var 4)) (sim_cons (sim_op sim_ix (sim_var 0) (sim_var 1)) sim_nil)))) (sim_gName 5))
    (sim_ret (sim_lc (sim_iSq (sim_sl (sim_var 5) sim_noPart (sim_part (sim_var 2)))) (sim_gName 4) (by decide) sim_yes (sim_op sim_ix (sim_var 0) (sim_var 4))))))

theorem q_neighbours : ∀ ds Q E, ps_neighbours ds Q E → ds.length = 3 ∧ P_neighbours { nx := fun _ => Q .non, rt := Q } (startP 6 ds) := by
  rintro _ Q E ⟨n, c, p, m, rfl, hc, hp, hl, hm, q⟩
  refine ⟨rfl, ?_⟩
  show P_neighbours _ [some (.d (.lst (c.map veD))), some (.d (.int (p : Nat))), some (.d (.int m)), none, none, none]
  unfold P_neighbours
  walk_at "pz"
  rw [List.length_map]
  refine p_rng1 (by omega) ?_
  rw [rngD_0, Int.toNat_natCast]
  refine p_filt (g := fun i : Nat => Da.int (i : Nat)) (fun i : Nat => !decide (i = p)) (by rw [List.length_range]; omega) (fun j a k1 k2 hj y no => ?_) ?_
  · rw [show (0 : Int) + (a : Int) = ((a : Nat) : Int) by omega]
    walk_at "pz"
    by_cases h : a = p
    · rw [decide_eq_true (show ((a : Nat) : Int) = ((p : Nat) : Int) by omega)]
      walk_at "px"
      exact no (by rw [decide_eq_true h]; rfl)
    · rw [decide_eq_false (show ¬ ((a : Nat) : Int) = ((p : Nat) : Int) by omega)]
      walk_at "px"
      exact y (by rw [decide_eq_false h]; rfl)
  walk_at "pz"
  refine p_srtK ?_
  walk_at "pz"
  have hk1 := alk_int (othN p c.length) (fun i => distZ (c.getD i []) (c.getD p []))
  have hk2 := srb_int (othN p c.length) (fun i => distZ (c.getD i []) (c.getD p []))
  have hk3 : ∀ k ∈ (othN p c.length).map (fun i => Da.int (distZ (c.getD i []) (c.getD p []))), keyOk k = true := fun k hk => by
    obtain ⟨x, _, rfl⟩ := List.mem_map.mp hk
    rfl
  refine ⟨(othN p c.length).map (fun i : Nat => Da.int (i : Nat)), _, rfl, ?_, ?_, hk3, hk1, hk2, ?_⟩
  · rw [List.length_map, List.length_map]
  · intro i d k hd hk
    rw [List.getElem?_map] at hd hk
    cases e : (othN p c.length)[i]? with
    | none => rw [e] at hd; cases hd
    | some x =>
      rw [e] at hd hk
      cases hd; cases hk
      have xl := (oth_mem (List.mem_of_getElem? e)).1
      walk_at "pz"
      refine p_ixL (atI_s (getD_c xl)) ?_
      walk_at "pz"
      refine p_ixL (atI_s (getD_c hp)) ?_
      walk_at "pz"
      have a1 := hc.at xl
      have a2 := hc.at hp
      exact ⟨_, _, c.getD x [], c.getD p [], rfl, .inr rfl, .inr rfl, by rw [a1.1, a2.1], a1.2, a2.2, rfl⟩
  rw [srtD_map]
  walk_at "pz"
  obtain ⟨j, rfl⟩ := Int.eq_ofNat_of_zero_le hm
  rw [cutD_to, ← List.map_take]
  have ol := ordD_len c p c.length
  unfold ordD leD at ol
  refine p_compM (fun i : Nat => Da.int (i : Nat)) (fun i => veD (c.getD i [])) (by rw [List.length_take]; omega) (fun i R hi k => ?_) ?_
  · have il : i < c.length := (ordD_mem (c := c) (p := p) (i := c.length) (List.mem_of_mem_take hi)).1
    walk_at "pz"
    exact p_ixL (atI_s (getD_c il)) k
  unfold cD neighZ at q
  rw [List.map_map, Int.toNat_natCast] at q
  exact q
theorem w_neighbours {K : PySem.W.Frag} {c : CEnv} : Wd (T_neighbours K c) N_neighbours 3 (sp_neighbours K c) := wd_lift S_neighbours q_neighbours
def ps_Lists_init : PSi := fun ds Q E => ∃ a b c d : Int, ds = [.int a, .int b, .int c, .int d] ∧ 1 ≤ a ∧ 0 ≤ b ∧ 0 ≤ c ∧ 1 ≤ d ∧ Q [.int a, .int b, .int c, .int d]
def sp_Lists_init (K : PySem.W.Frag) (c : CEnv) : Sp := liftI K c "Lists" LKK ps_Lists_init
theorem b_Lists_init {K : PySem.W.Frag} {c : CEnv} : SpSimI K c "Lists" LKK (sp_Lists_init K c) ps_Lists_init := spSimI_lift
abbrev N_Lists_init : List Str := ["self", "centres", "rounds", "cells", "size"]
-- Lists.__init__(self, centres, rounds, cells, size): slots 0:self 1:centres 2:rounds 3:cells 4:size
def T_Lists_init (K : PySem.W.Frag) (c : CEnv) (W : WX) : TS :=
    (tSeq (tDrop (tCallS (sp_check_rule K c) (WE W) (tCons (tLst (tCons (tVar 1) (tCons (tVar 4) tNil))) (tCons (tLst (tCons (tVar 2) (tCons (tVar 3) tNil))) tNil))))
    (tSeq (sFld K (tVar 0) (tVar 1) "centres")
    (tSeq (sFld K (tVar 0) (tVar 2) "rounds")
    (tSeq (sFld K (tVar 0) (tVar 3) "cells")
    (sFld K (tVar 0) (tVar 4) "size")))))
def P_Lists_init (Wp : WP) : PSt :=
    (pSeq (pDrop (pCalS Wp ps_check_rule (pCons (pLst (pCons (pVar 1) (pCons (pVar 4) pNil))) (pCons (pLst (pCons (pVar 2) (pCons (pVar 3) pNil))) pNil))))
    (pSeq (pSetF 0 "centres" (pVar 1))
    (pSeq (pSetF 0 "rounds" (pVar 2))
    (pSeq (pSetF 0 "cells" (pVar 3))
    (pSetF 0 "size" (pVar 4))))))
theorem S_Lists_init {K : PySem.W.Frag} {c : CEnv} {W : WX} {Wp : WP} : SimS ⟨K, c, W, Wp⟩ (T_Lists_init K c W) (P_Lists_init Wp) := by
  unfold T_Lists_init P_Lists_init
  exact (sim_seq (sim_drop (sim_calS b_check_rule (sim_cons (sim_lst (sim_cons (sim_var 1) (sim_cons (sim_var 4) sim_nil))) (sim_cons (sim_lst (sim_cons (sim_var 2) (sim_cons (sim_var 3) sim_nil))) sim_nil))))
    (sim_seq (sim_setF (sim_var 1))
    (sim_seq (sim_setF (sim_var 2))
    (sim_seq (sim_setF (sim_var 3))
    (sim_setF (sim_var 4))))))

theorem q_Lists_init : ∀ ds Q E, ps_Lists_init ds Q E → ds.length + 1 = 5 ∧ P_Lists_init (fun x _ => E x) { nx := endI "Lists" LKK Q, rt := fun _ => False } (startI "Lists" LKK 5 ds) := by
  rintro _ Q E ⟨a, b, c, d, rfl, h1, h2, h3, h4, q⟩
  refine ⟨rfl, ?_⟩
  show P_Lists_init _ _ [some (.obj "Lists" LKK [] []), some (.d (.int a)), some (.d (.int b)), some (.d (.int c)), some (.d (.int d))]
  unfold P_Lists_init
  walk_at "pz"
  refine ⟨[a, d], [b, c], rfl, fun h => ?_, fun h => absurd ⟨fun x hx => ?_, fun x hx => ?_⟩ h⟩
  · walk_at "pz"
    exact ⟨_, rfl, q⟩
  · simp only [List.mem_cons, List.not_mem_nil, or_false] at hx
    rcases hx with rfl | rfl <;> assumption
  · simp only [List.mem_cons, List.not_mem_nil, or_false] at hx
    rcases hx with rfl | rfl <;> assumption
theorem w_Lists_init {K : PySem.W.Frag} {c : CEnv} : WdX (T_Lists_init K c) N_Lists_init 5 (sp_Lists_init K c) := wd_liftIX (fun W Wp => S_Lists_init) (by decide) q_Lists_init
def ps_Lists_layout : PSp := fun ds Q _ => ∃ (n : Nat) (rs : List (Da × List Int)) (vs : List (List Int)) (num r ce sz : Int) (sc : Da), ds = [.ins "Lists" LKK [.int num, .int r, .int ce, .int sz], sc, .lst (rs.map recR)] ∧ vs = rs.map (·.2) ∧ VsN n vs ∧ vs.length ≤ 100 ∧ n ≤ 1000 ∧ 1 ≤ num ∧ num ≤ 100 ∧ 0 ≤ r ∧ r ≤ 1000 ∧ 0 ≤ ce ∧ 1 ≤ sz ∧ sz ≤ 1000 ∧ Q (layD (outZ (trainZ n vs num r) vs sz (S0 (trainZ n vs num r) ce) (trainZ n vs num r).length).1 (outZ (trainZ n vs num r) vs sz (S0 (trainZ n vs num r) ce) (trainZ n vs num r).length).2)
def sp_Lists_layout (K : PySem.W.Frag) (c : CEnv) : Sp := lift K c ps_Lists_layout
theorem b_Lists_layout {K : PySem.W.Frag} {c : CEnv} : SpSim K c (sp_Lists_layout K c) ps_Lists_layout := spSim_lift
abbrev N_Lists_layout : List Str := ["self", "schema", "records", "vectors", "record", "centres", "sketches", "place", "centre", "cells", "rival", "homes", "vector", "leaves", "_", "own", "at", "home", "rank"]
-- Lists.layout(self, schema, records): slots 0:self 1:schema 2:records 3:vectors 4:record 5:centres 6:sketches 7:place 8:centre 9:cells 10:rival 11:homes 12:vector 13:leaves 14:_ 15:own 16:at 17:home 18:rank
def T_Lists_layout_b1 (K : PySem.W.Frag) (c : CEnv) : TS :=
    (tSeq (tAsg (tLc (iSq K (tCal (sp_neighbours K c) (tCons (tVar 5) (tCons (tVar 7) (tCons (tFld K (tVar 0) "cells") tNil))))) (gName 10) tYes (tTup (tCons (tVar 8) (tCons (tVar 10) tNil))) [10]) (gName 9))
    (tDrop (tBM K "list" rAppend (tVar 6) (tCons (tMkK K c "Sketch" ["parent", "centres", "cells"] 1 2 [] [(true, 0), (true, 1)] (sp_Sketch_init K c) W0 (tCons (tC .non) tNil) (tCons (tLst (tCons (tTup (tCons (tC (.int 0)) (tCons (tVar 8) tNil))) tNil)) (tCons (tVar 9) tNil))) tNil))))
def T_Lists_layout_b2 (K : PySem.W.Frag) (c : CEnv) : TS :=
    (tCut (tIfS (tTest (tOp (uEq K) (tOp uMod (tVar 18) (tFld K (tVar 0) "size")) (tC (.int 0)))) (tDrop (tBM K "list" rAppend (tVar 6) (tCons (tMkK K c "Sketch" ["parent", "centres", "cells"] 1 0 [.e, .e] [(false, 0), (false, 1)] (sp_Sketch_init K c) W0 (tCons (tVar 7) tNil) tNil) tNil))) tNext)
    (tAsg (tOp uSub (tCB (uLen K) (tCons (tVar 6) tNil)) (tC (.int 1))) (gSub (tVar 13) (tVar 16) rSetL)))
def T_Lists_layout_b3 (K : PySem.W.Frag) (c : CEnv) : TS :=
    (tSeq (tAsg (tLc (iEnumA K (tCons (tVar 11) tNil)) (gTup K 2 (gCons (gName 16) (gCons (gName 17) gNil))) (tTest (tOp (uEq K) (tVar 17) (tVar 7))) (tVar 16) [16, 17]) (gName 15))
    (tFor (iEnumA K (tCons (tVar 15) tNil)) (gTup K 2 (gCons (gName 18) (gCons (gName 16) gNil))) (T_Lists_layout_b2 K c)))
def T_Lists_layout (K : PySem.W.Frag) (c : CEnv) : TS :=
    (tSeq (tAsg (tLc (iSq K (tVar 2)) (gName 4) tYes (tFld K (tVar 4) "vector") [4]) (gName 3))
    (tSeq (tAsg (tCal (sp_train K c) (tCons (tVar 3) (tCons (tFld K (tVar 0) "centres") (tCons (tFld K (tVar 0) "rounds") tNil)))) (gName 5))
    (tSeq (tAsg (tLst tNil) (gName 6))
    (tSeq (tFor (iEnumA K (tCons (tVar 5) tNil)) (gTup K 2 (gCons (gName 7) (gCons (gName 8) gNil))) (T_Lists_layout_b1 K c))
    (tSeq (tAsg (tLc (iSq K (tVar 3)) (gName 12) tYes (tCal (sp_nearest K c) (tCons (tVar 5) (tCons (tVar 12) tNil))) [12]) (gName 11))
    (tSeq (tAsg (tLc (iSq K (tVar 2)) (gName 14) tYes (tC (.int 0)) [14]) (gName 13))
    (tSeq (tFor (iRng1 (tCons (tCB (uLen K) (tCons (tVar 5) tNil)) tNil)) (gName 7) (T_Lists_layout_b3 K c))
    (tRet (tMk K c "Layout" ["sketches", "leaves"] (sp_Layout_init K c) (tCons (tVar 6) (tCons (tVar 13) tNil)))))))))))
def P_Lists_layout_b1 : PSt :=
    (pSeq (pAsg (pLc (piSq (pCal ps_neighbours (pCons (pVar 5) (pCons (pVar 7) (pCons (pFld (pVar 0) "cells") pNil))))) (pgName 10) pYes (pTup (pCons (pVar 8) (pCons (pVar 10) pNil))) [10]) (pgName 9))
    (pApp 6 (pMkK (fun _ _ => False) "Sketch" ["parent", "centres", "cells"] 1 2 [] [(true, 0), (true, 1)] ps_Sketch_init (pCons (pC .non) pNil) (pCons (pLst (pCons (pTup (pCons (pC (.int 0)) (pCons (pVar 8) pNil))) pNil)) (pCons (pVar 9) pNil)))))
def P_Lists_layout_b2 : PSt :=
    (pCut (pIfS (pTest (pOp pEq (pOp pMod (pVar 18) (pFld (pVar 0) "size")) (pC (.int 0)))) (pApp 6 (pMkK (fun _ _ => False) "Sketch" ["parent", "centres", "cells"] 1 0 [.e, .e] [(false, 0), (false, 1)] ps_Sketch_init (pCons (pVar 7) pNil) pNil)) pNext)
    (pSetI 13 (pVar 16) (pOp pSub (pBor 6 (pCB pLen (pCons (pVar 6) pNil))) (pC (.int 1)))))
def P_Lists_layout_b3 : PSt :=
    (pSeq (pAsg (pLc (piEnum (pCons (pVar 11) pNil)) (pgTup 2 (pgCons (pgName 16) (pgCons (pgName 17) pgNil))) (pTest (pOp pEq (pVar 17) (pVar 7))) (pVar 16) [16, 17]) (pgName 15))
    (pFor (piEnum (pCons (pVar 15) pNil)) (pgTup 2 (pgCons (pgName 18) (pgCons (pgName 16) pgNil))) P_Lists_layout_b2))
def P_Lists_layout : PSt :=
    (pSeq (pAsg (pLc (piSq (pVar 2)) (pgName 4) pYes (pFld (pVar 4) "vector") [4]) (pgName 3))
    (pSeq (pAsg (pCal ps_train (pCons (pVar 3) (pCons (pFld (pVar 0) "centres") (pCons (pFld (pVar 0) "rounds") pNil)))) (pgName 5))
    (pSeq (pAsgO 6 (pNewL pNil))
    (pSeq (pFor (piEnum (pCons (pVar 5) pNil)) (pgTup 2 (pgCons (pgName 7) (pgCons (pgName 8) pgNil))) P_Lists_layout_b1)
    (pSeq (pAsg (pLc (piSq (pVar 3)) (pgName 12) pYes (pCal ps_nearest (pCons (pVar 5) (pCons (pVar 12) pNil))) [12]) (pgName 11))
    (pSeq (pAsgO 13 (pLcF (piSq (pVar 2)) (pgName 14) pYes (pC (.int 0)) [14]))
    (pSeq (pFor (piRng1 (pCons (pCB pLen (pCons (pVar 5) pNil)) pNil)) (pgName 7) P_Lists_layout_b3)
    (pFrz 13 (pFrz 6 (pRet (pMk "Layout" ["sketches", "leaves"] ps_Layout_init (pCons (pVar 6) (pCons (pVar 13) pNil)))))))))))))
theorem S_Lists_layout {K : PySem.W.Frag} {c : CEnv} : SimS ⟨K, c, W0, fun _ _ => False⟩ (T_Lists_layout K c) (P_Lists_layout) := by
  unfold T_Lists_layout P_Lists_layout T_Lists_layout_b3 T_Lists_layout_b2 T_Lists_layout_b1 P_Lists_layout_b3 P_Lists_layout_b2 P_Lists_layout_b1
  exact (sim_seq (sim_asg (sim_lc (sim_iSq (sim_var 2)) (sim_gName 4) (by decide) sim_yes (sim_fld (sim_var 4))) (sim_gName 3))
    (sim_seq (sim_asg (sim_cal b_train (sim_cons (sim_var 3) (sim_cons (sim_fld (sim_var 0)) (sim_cons (sim_fld (sim_var 0)) sim_nil)))) (sim_gName 5))
    (sim_seq (sim_asgO (simF_lst sim_nil))
    (sim_seq (sim_for (sim_iEnum (sim_cons (sim_var 5) sim_nil)) (sim_gTup (sim_gCons (sim_gName 7) (sim_gCons (sim_gName 8) sim_gNil))) (sim_seq (sim_asg (sim_lc (sim_iSq (sim_cal b_neighbours (sim_cons (sim_var 5) (sim_cons (sim_var 7) (sim_cons (sim_fld (sim_var 0)) sim_nil))))) (sim_gName 10) (by decide) sim_yes (sim_tup (sim_cons (sim_var 8) (sim_cons (sim_var 10) sim_nil)))) (sim_gName 9))
    (sim_app (sim_mkK b_Sketch_init (sim_cons sim_non sim_nil) (sim_cons (sim_lst (sim_cons (sim_tup (sim_cons (sim_int _) (sim_cons (sim_var 8) sim_nil))) sim_nil)) (sim_cons (sim_var 9) sim_nil))))))
    (sim_seq (sim_asg (sim_lc (sim_iSq (sim_var 3)) (sim_gName 12) (by decide) sim_yes (sim_cal b_nearest (sim_cons (sim_var 5) (sim_cons (sim_var 12) sim_nil)))) (sim_gName 11))
    (sim_seq (sim_asgO (simF_lc (sim_iSq (sim_var 2)) (sim_gName 14) (by decide) sim_yes (sim_int _)))
    (sim_seq (sim_for (sim_iRng1 (sim_cons (sim_cb sim_len (sim_cons (sim_var 5) sim_nil)) sim_nil)) (sim_gName 7) (sim_seq (sim_asg (sim_lc (sim_iEnum (sim_cons (sim_var 11) sim_nil)) (sim_gTup (sim_gCons (sim_gName 16) (sim_gCons (sim_gName 17) sim_gNil))) (by decide) (sim_test (sim_op sim_eq (sim_var 17) (sim_var 7))) (sim_var 16)) (sim_gName 15))
    (sim_for (sim_iEnum (sim_cons (sim_var 15) sim_nil)) (sim_gTup (sim_gCons (sim_gName 18) (sim_gCons (sim_gName 16) sim_gNil))) (sim_cut (sim_ifS (sim_test (sim_op sim_eq (sim_op sim_mod (sim_var 18) (sim_fld (sim_var 0))) (sim_int _))) (sim_app (sim_mkK b_Sketch_init (sim_cons (sim_var 7) sim_nil) sim_nil)) sim_next)
    (sim_setI (sim_var 16) (sim_op sim_sub (sim_bor (sim_cb sim_len (sim_cons (sim_var 6) sim_nil))) (sim_int _)))))))
    (sim_frz (sim_frz (sim_ret (sim_mk b_Layout_init (sim_cons (sim_var 6) (sim_cons (sim_var 13) sim_nil)))))))))))))

theorem q_Lists_layout : ∀ ds Q E, ps_Lists_layout ds Q E → ds.length = 3 ∧ P_Lists_layout { nx := fun _ => Q .non, rt := Q } (startP 19 ds) := by
  rintro _ Q E ⟨n, rs, vs, num, r, ce, sz, sc, rfl, ev, hv, hl, hn, a1, a2, a3, a4, a5, a6, a7, q⟩
  refine ⟨rfl, ?_⟩
  show P_Lists_layout _ [some (.d (.ins "Lists" LKK [.int num, .int r, .int ce, .int sz])), some (.d sc), some (.d (.lst (rs.map recR))), none, none, none, none, none, none, none, none, none, none, none, none, none, none, none, none]
  unfold P_Lists_layout P_Lists_layout_b1 P_Lists_layout_b3 P_Lists_layout_b2
  have rl : rs.length = vs.length := by rw [ev, List.length_map]
  walk_at "pz"
  refine p_compM recR (fun x => veD x.2) (by omega) (fun x R hx k => ?_) ?_
  · rw [recR_ins]
    walk_at "pz"
    exact k
  rw [show rs.map (fun x => veD x.2) = vs.map veD by rw [ev, List.map_map]; rfl]
  walk_at "pz"
  refine ⟨n, vs, num, r, rfl, hv, by omega, hn, a1, by omega, a3, a4, ?_⟩
  have hc : VsN n (trainZ n vs num r) := trainZ_ok hv
  have cl : (trainZ n vs num r).length ≤ 100 := by rw [trainZ_len]; omega
  generalize trainZ n vs num r = c at hc cl q ⊢
  unfold cD
  walk_at "pz"
  refine p_loop (fun i ρ => ∃ (x4 x7 x8 x9 x10 x11 x12 x13 x14 x15 x16 x17 x18 : Option Pv), ρ = [some (.d (.ins "Lists" LKK [.int num, .int r, .int ce, .int sz])), some (.d sc), some (.d (.lst (rs.map recR))), some (.d (.lst (vs.map veD))), x4, some (.d (.lst (c.map veD))), some (.own (((S0 c ce).take i).map SkF.da)), x7, x8, x9, x10, x11, x12, x13, x14, x15, x16, x17, x18]) ⟨_, _, _, _, _, _, _, _, _, _, _, _, _, rfl⟩ ?_ ?_
  · rintro i x _ hx ⟨x4, x7, x8, x9, x10, x11, x12, x13, x14, x15, x16, x17, x18, rfl⟩
    obtain ⟨y, hy, rfl⟩ := enumD_get hx
    rw [List.getElem?_map] at hy
    obtain ⟨u, hu, rfl⟩ := Option.map_eq_some_iff.mp hy
    have hi := (List.getElem?_eq_some_iff.mp hu).1
    have gu : c.getD i [] = u := by rw [List.getD_eq_getElem?_getD, hu]; rfl
    have nl := neigh_len (c := c) (p := i) (m := ce)
    have st : (S0 c ce)[i]? = some (skC (neighZ c i ce) u) := by unfold S0; rw [List.getElem?_map, List.getElem?_range hi, ← gu]; rfl
    walk_at "pz"
    refine ⟨n, c, i, ce, rfl, hc, hi, by omega, a5, ?_⟩
    unfold cD
    walk_at "pz"
    refine p_compM veD (fun rv => celD (u, rv)) (by omega) (fun rv R hx k => ?_) ?_
    · walk_at "pz"
      exact k
    walk_at "pz"
    rotate_left
    · rw [List.length_map, List.length_take]; omega
    refine ⟨rfl, rfl, skC (neighZ c i ce) u, _, _, rfl, .inl rfl, .inl (by show _ = Da.lst (((neighZ c i ce).map fun rv => (u, rv)).map celD); rw [List.map_map]; rfl), by show 1 ≤ 1000; decide, by show (((neighZ c i ce).map fun rv => (u, rv))).length ≤ 1000; rw [List.length_map]; omega, ?_⟩
    rw [show ((S0 c ce).take (i + 1)).map SkF.da = ((S0 c ce).take i).map SkF.da ++ [(skC (neighZ c i ce) u).da] by rw [List.take_add_one, st, List.map_append]; rfl]
    exact ⟨_, _, _, _, _, _, _, _, _, _, _, _, _, rfl⟩
  rintro _ ⟨x4, x7, x8, x9, x10, x11, x12, x13, x14, x15, x16, x17, x18, rfl⟩
  rw [show (enumD (c.map veD)).length = c.length by unfold enumD; rw [List.length_mapIdx, List.length_map], List.take_of_length_le (by rw [S0_len]; exact Nat.le_refl _)]
  walk_at "pz"
  refine p_compM veD (fun v => .int (nearZ c v : Nat)) (by omega) (fun v R hv' k => ?_) ?_
  · walk_at "pz"
    exact ⟨n, c, v, rfl, hc, fun u hu => by rw [List.mem_singleton.mp hu]; exact hv v hv', by omega, k⟩
  walk_at "pz"
  refine p_map (by rw [List.length_map]; omega) (fun _ => .int 0) (fun i x R hx k => ?_) ?_
  · walk_at "pz"
    exact k
  walk_at "pz"
  rw [List.length_map]
  refine p_rng1 (by omega) ?_
  refine p_loopR (fun k ρ => ∃ (x4 x7 x8 x9 x10 x12 x14 x15 x16 x17 x18 : Option Pv), ρ = [some (.d (.ins "Lists" LKK [.int num, .int r, .int ce, .int sz])), some (.d sc), some (.d (.lst (rs.map recR))), some (.d (.lst (vs.map veD))), x4, some (.d (.lst (c.map veD))), some (.own ((outZ c vs sz (S0 c ce) k).1.map SkF.da)), x7, x8, x9, x10, some (.d (.lst (vs.map fun v => .int (nearZ c v : Nat)))), x12, some (.own ((outZ c vs sz (S0 c ce) k).2.map Da.int)), x14, x15, x16, x17, x18]) ⟨_, _, _, _, _, _, _, _, _, _, _, by rw [rep_map _ (by rw [List.length_map]), rl]; show _ = _; unfold outZ; rw [List.map_replicate]⟩ ?_ ?_
  · rintro k _ hk ⟨x4, x7, x8, x9, x10, x12, x14, x15, x16, x17, x18, rfl⟩
    have hk : k < c.length := by simpa using hk
    rw [show (0 : Int) + (k : Int) = ((k : Nat) : Int) by omega]
    have o1 := (out_len (c := c) (vs := vs) (sz := sz) (S := S0 c ce) k)
    have on : outZ c vs sz (S0 c ce) (k + 1) = (((ownN c vs k vs.length).foldl (stp3 k sz) ((outZ c vs sz (S0 c ce) k).1, (outZ c vs sz (S0 c ce) k).2, 0)).1, ((ownN c vs k vs.length).foldl (stp3 k sz) ((outZ c vs sz (S0 c ce) k).1, (outZ c vs sz (S0 c ce) k).2, 0)).2.1) := rfl
    rw [S0_len] at o1
    have kb : k * vs.length ≤ 10000 := Nat.mul_le_mul (show k ≤ 100 by omega) hl
    generalize (outZ c vs sz (S0 c ce) k).1 = S1 at o1 on ⊢
    generalize (outZ c vs sz (S0 c ce) k).2 = L1 at o1 on ⊢
    walk_at "pz"
    rw [own_homes]
    refine p_filt (g := fun i : Nat => Da.int (i : Nat)) (fun i => decide (nearZ c (vs.getD i []) = k)) (by rw [List.length_range]; omega) (fun j a k1 k2 hj y no => ?_) ?_
    · walk_at "pz"
      by_cases h : nearZ c (vs.getD a []) = k
      · rw [decide_eq_true (show ((nearZ c (vs.getD a []) : Nat) : Int) = ((k : Nat) : Int) by omega)]
        walk_at "px"
        exact y (decide_eq_true h)
      · rw [decide_eq_false (show ¬ ((nearZ c (vs.getD a []) : Nat) : Int) = ((k : Nat) : Int) by omega)]
        walk_at "px"
        exact no (decide_eq_false h)
    have wl := own_len c vs k vs.length
    have wm : ∀ a ∈ ownN c vs k vs.length, a < vs.length := fun a ha => (own_mem ha).1
    rw [show ((List.range vs.length).filter fun i => decide (nearZ c (vs.getD i []) = k)).map (fun i : Nat => Da.int (i : Nat)) = nD (ownN c vs k vs.length) from rfl]
    rw [on]
    generalize ownN c vs k vs.length = ow at wl wm ⊢
    walk_at "pz"
    refine p_loop (fun q ρ => ∃ (x4 x8 x9 x10 x12 x14 x16 x17 x18 : Option Pv), ρ = [some (.d (.ins "Lists" LKK [.int num, .int r, .int ce, .int sz])), some (.d sc), some (.d (.lst (rs.map recR))), some (.d (.lst (vs.map veD))), x4, some (.d (.lst (c.map veD))), some (.own (((ow.take q).foldl (stp3 k sz) (S1, L1, 0)).1.map SkF.da)), some (.d (.int (k : Nat))), x8, x9, x10, some (.d (.lst (vs.map fun v => .int (nearZ c v : Nat)))), x12, some (.own (((ow.take q).foldl (stp3 k sz) (S1, L1, 0)).2.1.map Da.int)), x14, some (.d (.lst (nD ow))), x16, x17, x18]) ⟨_, _, _, _, _, _, _, _, _, rfl⟩ ?_ ?_
    · rintro q x _ hx ⟨x4, x8, x9, x10, x12, x14, x16, x17, x18, rfl⟩
      obtain ⟨y, hy, rfl⟩ := enumD_get hx
      obtain ⟨a, ha, rfl⟩ := nD_gt hy
      have al := wm a (List.mem_of_getElem? ha)
      have ql := (List.getElem?_eq_some_iff.mp ha).1
      have tk : ow.take (q + 1) = ow.take q ++ [a] := by rw [List.take_add_one, ha]; rfl
      obtain ⟨f1, f2, f3⟩ := stp_fold (k := k) (sz := sz) (ow.take q) (S1, L1, 0)
      rw [List.length_take, Nat.min_eq_left (by omega)] at f1 f3
      have nx : (ow.take (q + 1)).foldl (stp3 k sz) (S1, L1, 0) = stp3 k sz ((ow.take q).foldl (stp3 k sz) (S1, L1, 0)) a := by rw [tk, List.foldl_append]; rfl
      rw [nx]
      generalize (ow.take q).foldl (stp3 k sz) (S1, L1, 0) = T at f1 f2 f3 ⊢
      have f1 : T.2.2 = q := by rw [f1]; simp
      have f2 : T.2.1.length = L1.length := f2
      have f3 : T.1.length ≤ S1.length + q := f3
      obtain ⟨SS, hSS⟩ : ∃ SS : List SkF, SS = (if ((q : Nat) : Int) % sz = 0 then T.1 ++ [⟨some k, [], []⟩] else T.1) := ⟨_, rfl⟩
      have st : stp3 k sz T a = (SS, T.2.1.set a ((SS.length : Int) - 1), T.2.2 + 1) := by unfold stp3; rw [f1, hSS]
      have sl : SS.length ≤ 20000 := by
        rw [hSS]
        split
        · rw [List.length_append]; simp; omega
        · omega
      walk_at "pz"
      refine p_cut (fun ρ => ∃ (x4 x8 x9 x10 x12 x14 x17 : Option Pv), ρ = [some (.d (.ins "Lists" LKK [.int num, .int r, .int ce, .int sz])), some (.d sc), some (.d (.lst (rs.map recR))), some (.d (.lst (vs.map veD))), x4, some (.d (.lst (c.map veD))), some (.own (SS.map SkF.da)), some (.d (.int (k : Nat))), x8, x9, x10, some (.d (.lst (vs.map fun v => .int (nearZ c v : Nat)))), x12, some (.own (T.2.1.map Da.int)), x14, some (.d (.lst (nD ow))), some (.d (.int (a : Nat))), x17, some (.d (.int (q : Nat)))]) ?_ ?_
      · walk_at "pz"
        refine z_itD (fun h => ?_) (fun h => ?_)
        · refine p_app rfl (by rw [List.length_map]; omega) ?_
          walk_at "pz"
          refine ⟨rfl, rfl, ⟨some k, [], []⟩, _, _, rfl, .inr rfl, .inr rfl, Nat.zero_le _, Nat.zero_le _, ?_⟩
          rw [if_pos h] at hSS
          rw [hSS, List.map_append]
          exact ⟨_, _, _, _, _, _, _, rfl⟩
        · rw [if_neg h] at hSS
          rw [hSS]
          exact ⟨_, _, _, _, _, _, _, rfl⟩
      rintro _ ⟨x4, x8, x9, x10, x12, x14, x17, rfl⟩
      walk_at "pz"
      rw [List.length_map]
      refine ⟨_, a, rfl, ixN_n (by rw [f2, o1.1]; exact al), ?_⟩
      rw [st, ← List.map_set, List.length_map]
      exact ⟨_, _, _, _, _, _, _, _, _, rfl⟩
    rintro _ ⟨x4, x8, x9, x10, x12, x14, x16, x17, x18, rfl⟩
    rw [show (enumD (nD ow)).length = ow.length by unfold enumD; rw [List.length_mapIdx, nD_len], List.take_length]
    exact ⟨_, _, _, _, _, _, _, _, _, _, _, rfl⟩
  rintro _ ⟨x4, x7, x8, x9, x10, x12, x14, x15, x16, x17, x18, rfl⟩
  rw [show ((c.length : Nat) : Int).toNat = c.length by simp]
  walk_at "pz"
  exact ⟨_, _, _, _, rfl, .inl rfl, .inl rfl, q⟩
theorem w_Lists_layout {K : PySem.W.Frag} {c : CEnv} : Wd (T_Lists_layout K c) N_Lists_layout 3 (sp_Lists_layout K c) := wd_lift S_Lists_layout q_Lists_layout

local macro_rules | `(tactic| walk_at "pu") => `(tactic| (with_reducible first | refine p_istr ?_ | refine p_cstT ?_ | refine p_kout ?_ | refine p_kin ?_ | refine p_kst ?_ | refine p_ord ?_ | refine p_izip2 ?_ | refine p_izip3 ?_ | (refine p_zip2 (by first | exact seqL | exact seqT | assumption) (by first | exact seqL | exact seqT | assumption) ?_) | (refine p_zip3 (by first | exact seqL | exact seqT | assumption) (by first | exact seqL | exact seqT | assumption) (by first | exact seqL | exact seqT | assumption) ?_) | (refine p_lenS (by omega) ?_)))
local macro_rules | `(tactic| walk_at "pv") => `(tactic| repeat (first | walk_at "p1" | walk_at "pu"))
local macro_rules | `(tactic| walk_at "pw") => `(tactic| repeat (first | walk_at "p1" | walk_at "pu" | walk_at "pd"))
def skShown (s : SkF) : Da := .tup [parD s.p, .lst (s.c.map fun x => .tup [.int x.1, .lst (iD x.2)]), .lst (s.e.map fun x => .tup [.lst (iD x.1), .lst (iD x.2)])]
def shownD (S : List SkF) (L : List Int) : Da := .tup [.lst (S.map skShown), .lst (iD L)]
def SkF.Sz (s : SkF) : Prop := s.c.length ≤ 1000 ∧ s.e.length ≤ 1000
theorem parD_fl (p : Option Nat) : flD (parD p) = true := by cases p <;> rfl
theorem skShown_pl (s : SkF) : plD 4 (skShown s) := .inr ⟨_, .inl rfl, fun x hx => by
  simp only [List.mem_cons, List.not_mem_nil, or_false] at hx
  rcases hx with rfl | rfl | rfl
  · exact .inl (parD_fl _)
  · refine .inr ⟨_, .inr rfl, fun y hy => ?_⟩
    obtain ⟨z, _, rfl⟩ := List.mem_map.mp hy
    refine .inr ⟨_, .inl rfl, fun u hu => ?_⟩
    simp only [List.mem_cons, List.not_mem_nil, or_false] at hu
    rcases hu with rfl | rfl
    · exact .inl rfl
    · exact plD.ints _
  · refine .inr ⟨_, .inr rfl, fun y hy => ?_⟩
    obtain ⟨z, _, rfl⟩ := List.mem_map.mp hy
    refine .inr ⟨_, .inl rfl, fun u hu => ?_⟩
    simp only [List.mem_cons, List.not_mem_nil, or_false] at hu
    rcases hu with rfl | rfl
    · exact plD.ints _
    · exact plD.ints _⟩
theorem shownD_pl (S : List SkF) (L : List Int) : plD 6 (shownD S L) := .inr ⟨_, .inl rfl, fun x hx => by
  simp only [List.mem_cons, List.not_mem_nil, or_false] at hx
  rcases hx with rfl | rfl
  · refine .inr ⟨_, .inr rfl, fun y hy => ?_⟩
    obtain ⟨z, _, rfl⟩ := List.mem_map.mp hy
    exact skShown_pl z
  · exact plD.ints _⟩
def ps_law_shown : PSp := fun ds Q _ => ∃ (S : List SkF) (L : List Int), ds = [layD S L] ∧ S.length ≤ 5000 ∧ (∀ s ∈ S, s.Sz) ∧ Q (shownD S L)
def sp_law_shown (K : PySem.W.Frag) (c : CEnv) : Sp := lift K c ps_law_shown
theorem b_law_shown {K : PySem.W.Frag} {c : CEnv} : SpSim K c (sp_law_shown K c) ps_law_shown := spSim_lift
abbrev N_law_shown : List Str := ["_law_layout", "_law_shown_here", "_law_sketch", "_law_centres", "_law_start", "_law_centre", "_law_cells_here", "_law_near", "_law_rival"]
-- _law_shown(_law_layout): slots 0:_law_layout 1:_law_shown_here 2:_law_sketch 3:_law_centres 4:_law_start 5:_law_centre 6:_law_cells_here 7:_law_near 8:_law_rival
def T_law_shown_b1 (K : PySem.W.Frag) : TS :=
    (tSeq (tAsg (tLc (iSq K (tFld K (tVar 2) "centres")) (gTup K 2 (gCons (gName 4) (gCons (gName 5) gNil))) tYes (tTup (tCons (tVar 4) (tCons (tCB (uList K) (tCons (tVar 5) tNil)) tNil))) [4, 5]) (gName 3))
    (tSeq (tAsg (tLc (iSq K (tFld K (tVar 2) "cells")) (gTup K 2 (gCons (gName 7) (gCons (gName 8) gNil))) tYes (tTup (tCons (tCB (uList K) (tCons (tVar 7) tNil)) (tCons (tCB (uList K) (tCons (tVar 8) tNil)) tNil))) [7, 8]) (gName 6))
    (tDrop (tBM K "list" rAppend (tVar 1) (tCons (tTup (tCons (tFld K (tVar 2) "parent") (tCons (tVar 3) (tCons (tVar 6) tNil)))) tNil)))))
def T_law_shown (K : PySem.W.Frag) : TS :=
    (tSeq (tAsg (tLst tNil) (gName 1))
    (tSeq (tFor (iSq K (tFld K (tVar 0) "sketches")) (gName 2) (T_law_shown_b1 K))
    (tRet (tTup (tCons (tVar 1) (tCons (tCB (uList K) (tCons (tFld K (tVar 0) "leaves") tNil)) tNil))))))
def P_law_shown_b1 : PSt :=
    (pSeq (pAsg (pLc (piSq (pFld (pVar 2) "centres")) (pgTup 2 (pgCons (pgName 4) (pgCons (pgName 5) pgNil))) pYes (pTup (pCons (pVar 4) (pCons (pCB pList (pCons (pVar 5) pNil)) pNil))) [4, 5]) (pgName 3))
    (pSeq (pAsg (pLc (piSq (pFld (pVar 2) "cells")) (pgTup 2 (pgCons (pgName 7) (pgCons (pgName 8) pgNil))) pYes (pTup (pCons (pCB pList (pCons (pVar 7) pNil)) (pCons (pCB pList (pCons (pVar 8) pNil)) pNil))) [7, 8]) (pgName 6))
    (pApp 1 (pTup (pCons (pFld (pVar 2) "parent") (pCons (pVar 3) (pCons (pVar 6) pNil)))))))
def P_law_shown : PSt :=
    (pSeq (pAsgO 1 (pNewL pNil))
    (pSeq (pFor (piSq (pFld (pVar 0) "sketches")) (pgName 2) P_law_shown_b1)
    (pFrz 1 (pRet (pTup (pCons (pVar 1) (pCons (pCB pList (pCons (pFld (pVar 0) "leaves") pNil)) pNil)))))))
theorem S_law_shown {K : PySem.W.Frag} {c : CEnv} : SimS ⟨K, c, W0, fun _ _ => False⟩ (T_law_shown K) (P_law_shown) := by
  unfold T_law_shown P_law_shown T_law_shown_b1 P_law_shown_b1
  exact (sim_seq (sim_asgO (simF_lst sim_nil))
    (sim_seq (sim_for (sim_iSq (sim_fld (sim_var 0))) (sim_gName 2) (sim_seq (sim_asg (sim_lc (sim_iSq (sim_fld (sim_var 2))) (sim_gTup (sim_gCons (sim_gName 4) (sim_gCons (sim_gName 5) sim_gNil))) (by decide) sim_yes (sim_tup (sim_cons (sim_var 4) (sim_cons (sim_cb sim_list (sim_cons (sim_var 5) sim_nil)) sim_nil)))) (sim_gName 3))
    (sim_seq (sim_asg (sim_lc (sim_iSq (sim_fld (sim_var 2))) (sim_gTup (sim_gCons (sim_gName 7) (sim_gCons (sim_gName 8) sim_gNil))) (by decide) sim_yes (sim_tup (sim_cons (sim_cb sim_list (sim_cons (sim_var 7) sim_nil)) (sim_cons (sim_cb sim_list (sim_cons (sim_var 8) sim_nil)) sim_nil)))) (sim_gName 6))
    (sim_app (sim_tup (sim_cons (sim_fld (sim_var 2)) (sim_cons (sim_var 3) (sim_cons (sim_var 6) sim_nil))))))))
    (sim_frz (sim_ret (sim_tup (sim_cons (sim_var 1) (sim_cons (sim_cb sim_list (sim_cons (sim_fld (sim_var 0)) sim_nil)) sim_nil)))))))

theorem q_law_shown : ∀ ds Q E, ps_law_shown ds Q E → ds.length = 1 ∧ P_law_shown { nx := fun _ => Q .non, rt := Q } (startP 9 ds) := by
  rintro _ Q E ⟨S, L, rfl, hS, hz, q⟩
  refine ⟨rfl, ?_⟩
  show P_law_shown _ [some (.d (.ins "Layout" ["sketches", "leaves"] [.tup (S.map SkF.da), .tup (iD L)])), none, none, none, none, none, none, none, none]
  unfold P_law_shown P_law_shown_b1
  walk_at "pz"
  refine p_loop (fun i ρ => ∃ (x2 x3 x4 x5 x6 x7 x8 : Option Pv), ρ = [some (.d (.ins "Layout" ["sketches", "leaves"] [.tup (S.map SkF.da), .tup (iD L)])), some (.own ((S.take i).map skShown)), x2, x3, x4, x5, x6, x7, x8]) ⟨_, _, _, _, _, _, _, rfl⟩ ?_ ?_
  · rintro i x _ hx ⟨x2, x3, x4, x5, x6, x7, x8, rfl⟩
    rw [List.getElem?_map] at hx
    obtain ⟨s, hs, rfl⟩ := Option.map_eq_some_iff.mp hx
    have hi := (List.getElem?_eq_some_iff.mp hs).1
    have sz := hz s (List.mem_of_getElem? hs)
    rw [show s.da = .ins "Sketch" SKK [parD s.p, .tup (s.c.map cenD), .tup (s.e.map celD)] from rfl]
    walk_at "pz"
    refine p_compM cenD (fun x => .tup [.int x.1, .lst (iD x.2)]) (by have := sz.1; omega) (fun x R hx k => ?_) ?_
    · unfold cenD
      walk_at "pz"
      exact k
    walk_at "pz"
    refine p_compM celD (fun x => .tup [.lst (iD x.1), .lst (iD x.2)]) (by have := sz.2; omega) (fun x R hx k => ?_) ?_
    · unfold celD
      walk_at "pz"
      exact k
    walk_at "pz"
    · rw [show (S.take i).map skShown ++ [Da.tup [parD s.p, .lst (s.c.map fun x => .tup [.int x.1, .lst (iD x.2)]), .lst (s.e.map fun x => .tup [.lst (iD x.1), .lst (iD x.2)])]] = (S.take (i + 1)).map skShown by
        rw [List.take_add_one, hs, List.map_append]; rfl]
      exact ⟨_, _, _, _, _, _, _, rfl⟩
    · rw [List.length_map, List.length_take]; omega
  · rintro _ ⟨x2, x3, x4, x5, x6, x7, x8, rfl⟩
    rw [List.length_map, List.take_length]
    walk_at "pz"
    exact q
theorem w_law_shown {K : PySem.W.Frag} {c : CEnv} : Wd (T_law_shown K) N_law_shown 1 (sp_law_shown K c) := wd_lift S_law_shown q_law_shown
theorem p_ixQ {v d : Da} {l : List Da} {i : Int} {Q : Da → Prop} (h : seqD v l) (e : atI l i = some d) (k : Q d) : pIx v (.int i) Q := by rcases h with rfl | rfl <;> exact ⟨d, e, k⟩
theorem getD_at {l : List Int} {i : Nat} (h : i < l.length) : (iD l)[i]? = some (.int (l.getD i 0)) := by
  unfold iD
  rw [List.getElem?_map, List.getElem?_eq_getElem h, List.getD_eq_getElem?_getD, List.getElem?_eq_getElem h]; rfl
theorem pickA {L : List Da} {k : Int} {Q : Da → Prop} (h0 : 0 ≤ k) (h1 : k < L.length) (q : ∀ x ∈ L, Q x) : pIx (.lst L) (.int k) Q := by
  obtain ⟨j, rfl⟩ := Int.eq_ofNat_of_zero_le h0
  have hj : j < L.length := by omega
  exact ⟨L[j], atI_s (List.getElem?_eq_getElem hj), q _ (List.getElem_mem hj)⟩
theorem nD_at {o : List Nat} {i p : Nat} (h : o[i]? = some p) : (nD o)[i]? = some (.int (p : Nat)) := by unfold nD; rw [List.getElem?_map, h]; rfl
theorem rlen : ∀ i : Nat, i < 9 → (Str.length "r") + (Str.length (toString ((i : Nat) : Int))) ≤ 100000 := by decide +kernel
def ps_law_distance : PSp := fun ds Q _ => ∃ (u v : Da) (a b : List Int), ds = [u, v] ∧ seqD u (iD a) ∧ seqD v (iD b) ∧ a.length = b.length ∧ a.length ≤ 1000 ∧ Bd VM a ∧ Bd VM b ∧ Q (.int (distZ a b))
def sp_law_distance (K : PySem.W.Frag) (c : CEnv) : Sp := lift K c ps_law_distance
theorem b_law_distance {K : PySem.W.Frag} {c : CEnv} : SpSim K c (sp_law_distance K c) ps_law_distance := spSim_lift
abbrev N_law_distance : List Str := ["_law_a", "_law_b", "_law_total", "_law_k"]
-- _law_distance(_law_a, _law_b): slots 0:_law_a 1:_law_b 2:_law_total 3:_law_k
def T_law_distance_b1 (K : PySem.W.Frag) : TS :=
    (tAsg (tOp (uAdd K) (tVar 2) (tOp uMul (tOp uSub (tOp (uIx K) (tVar 0) (tVar 3)) (tOp (uIx K) (tVar 1) (tVar 3))) (tOp uSub (tOp (uIx K) (tVar 0) (tVar 3)) (tOp (uIx K) (tVar 1) (tVar 3))))) (gName 2))
def T_law_distance (K : PySem.W.Frag) : TS :=
    (tSeq (tAsg (tC (.int 0)) (gName 2))
    (tSeq (tFor (iRng1 (tCons (tCB (uLen K) (tCons (tVar 0) tNil)) tNil)) (gName 3) (T_law_distance_b1 K))
    (tRet (tVar 2))))
def P_law_distance_b1 : PSt :=
    (pAsg (pOp pAdd (pVar 2) (pOp pMul (pOp pSub (pOp pIx (pVar 0) (pVar 3)) (pOp pIx (pVar 1) (pVar 3))) (pOp pSub (pOp pIx (pVar 0) (pVar 3)) (pOp pIx (pVar 1) (pVar 3))))) (pgName 2))
def P_law_distance : PSt :=
    (pSeq (pAsg (pC (.int 0)) (pgName 2))
    (pSeq (pFor (piRng1 (pCons (pCB pLen (pCons (pVar 0) pNil)) pNil)) (pgName 3) P_law_distance_b1)
    (pRet (pVar 2))))
theorem S_law_distance {K : PySem.W.Frag} {c : CEnv} : SimS ⟨K, c, W0, fun _ _ => False⟩ (T_law_distance K) (P_law_distance) := by
  unfold T_law_distance P_law_distance T_law_distance_b1 P_law_distance_b1
  exact (sim_seq (sim_asg (sim_int _) (sim_gName 2))
    (sim_seq (sim_for (sim_iRng1 (sim_cons (sim_cb sim_len (sim_cons (sim_var 0) sim_nil)) sim_nil)) (sim_gName 3) (sim_asg (sim_op sim_add (sim_var 2) (sim_op sim_mul (sim_op sim_sub (sim_op sim_ix (sim_var 0) (sim_var 3)) (sim_op sim_ix (sim_var 1) (sim_var 3))) (sim_op sim_sub (sim_op sim_ix (sim_var 0) (sim_var 3)) (sim_op sim_ix (sim_var 1) (sim_var 3))))) (sim_gName 2)))
    (sim_ret (sim_var 2))))

theorem q_law_distance : ∀ ds Q E, ps_law_distance ds Q E → ds.length = 2 ∧ P_law_distance { nx := fun _ => Q .non, rt := Q } (startP 4 ds) := by
  rintro _ Q E ⟨u, v, a, b, rfl, su, sv, hl, hn, b1, b2, q⟩
  refine ⟨rfl, ?_⟩
  show P_law_distance _ [some (.d u), some (.d v), none, none]
  unfold P_law_distance P_law_distance_b1
  walk_at "pz"
  refine p_lenSq su ?_
  rw [List.length_map]
  refine p_rng1 (by omega) ?_
  refine p_loopR (fun i ρ => ∃ x3 : Option Pv, ρ = [some (.d u), some (.d v), some (.d (.int (distZ (a.take i) (b.take i)))), x3]) ⟨_, by rw [List.take_zero, List.take_zero]; rfl⟩ ?_ ?_
  · rintro i _ hi ⟨x3, rfl⟩
    have hi : i < a.length := by simpa using hi
    have ga := getD_at hi
    have gb := getD_at (hl ▸ hi)
    have u1 := b1.at hi
    have u2 := b2.at (hl ▸ hi)
    have ft := distZ_take hl hi
    generalize a.getD i 0 = x at *
    generalize b.getD i 0 = y at *
    rw [show (0 : Int) + (i : Int) = (i : Int) by omega]
    walk_at "pz"
    refine p_ixQ su (atI_s ga) ?_
    walk_at "pz"
    refine p_ixQ sv (atI_s gb) ?_
    walk_at "pz"
    refine p_ixQ su (atI_s ga) ?_
    walk_at "pz"
    refine p_ixQ sv (atI_s gb) ?_
    walk_at "pz"
    refine p_mul (by unfold VM at *; exact mul1 (by omega)) ?_
    walk_at "pz"
    rw [← ft]
    exact ⟨_, rfl⟩
  · rintro _ ⟨x3, rfl⟩
    walk_at "pz"
    rw [show ((a.length : Nat) : Int).toNat = a.length by simp, List.take_length, hl, List.take_length]
    exact q
theorem w_law_distance {K : PySem.W.Frag} {c : CEnv} : Wd (T_law_distance K) N_law_distance 2 (sp_law_distance K c) := wd_lift S_law_distance q_law_distance
def ps_law_nearest : PSp := fun ds Q _ => ∃ (n : Nat) (c : List (List Int)) (u : Da) (v : List Int), ds = [cD c, u] ∧ seqD u (iD v) ∧ VsN n c ∧ VsN n [v] ∧ n ≤ 1000 ∧ c.length ≤ 1000 ∧ Q (.int (nearZ c v : Nat))
def sp_law_nearest (K : PySem.W.Frag) (c : CEnv) : Sp := lift K c ps_law_nearest
theorem b_law_nearest {K : PySem.W.Frag} {c : CEnv} : SpSim K c (sp_law_nearest K c) ps_law_nearest := spSim_lift
abbrev N_law_nearest : List Str := ["_law_centres", "_law_vector", "_law_best", "_law_k"]
-- _law_nearest(_law_centres, _law_vector): slots 0:_law_centres 1:_law_vector 2:_law_best 3:_law_k
def T_law_nearest_b1 (K : PySem.W.Frag) (c : CEnv) : TS :=
    (tIfS (tTest (tOp (uLt K) (tCal (sp_law_distance K c) (tCons (tOp (uIx K) (tVar 0) (tVar 3)) (tCons (tVar 1) tNil))) (tCal (sp_law_distance K c) (tCons (tOp (uIx K) (tVar 0) (tVar 2)) (tCons (tVar 1) tNil))))) (tAsg (tVar 3) (gName 2)) tNext)
def T_law_nearest (K : PySem.W.Frag) (c : CEnv) : TS :=
    (tSeq (tAsg (tC (.int 0)) (gName 2))
    (tSeq (tFor (iRng1 (tCons (tCB (uLen K) (tCons (tVar 0) tNil)) tNil)) (gName 3) (T_law_nearest_b1 K c))
    (tRet (tVar 2))))
def P_law_nearest_b1 : PSt :=
    (pIfS (pTest (pOp pLt (pCal ps_law_distance (pCons (pOp pIx (pVar 0) (pVar 3)) (pCons (pVar 1) pNil))) (pCal ps_law_distance (pCons (pOp pIx (pVar 0) (pVar 2)) (pCons (pVar 1) pNil))))) (pAsg (pVar 3) (pgName 2)) pNext)
def P_law_nearest : PSt :=
    (pSeq (pAsg (pC (.int 0)) (pgName 2))
    (pSeq (pFor (piRng1 (pCons (pCB pLen (pCons (pVar 0) pNil)) pNil)) (pgName 3) P_law_nearest_b1)
    (pRet (pVar 2))))
theorem S_law_nearest {K : PySem.W.Frag} {c : CEnv} : SimS ⟨K, c, W0, fun _ _ => False⟩ (T_law_nearest K c) (P_law_nearest) := by
  unfold T_law_nearest P_law_nearest T_law_nearest_b1 P_law_nearest_b1
  exact (sim_seq (sim_asg (sim_int _) (sim_gName 2))
    (sim_seq (sim_for (sim_iRng1 (sim_cons (sim_cb sim_len (sim_cons (sim_var 0) sim_nil)) sim_nil)) (sim_gName 3) (sim_ifS (sim_test (sim_op sim_lt (sim_cal b_law_distance (sim_cons (sim_op sim_ix (sim_var 0) (sim_var 3)) (sim_cons (sim_var 1) sim_nil))) (sim_cal b_law_distance (sim_cons (sim_op sim_ix (sim_var 0) (sim_var 2)) (sim_cons (sim_var 1) sim_nil))))) (sim_asg (sim_var 3) (sim_gName 2)) sim_next))
    (sim_ret (sim_var 2))))

theorem q_law_nearest : ∀ ds Q E, ps_law_nearest ds Q E → ds.length = 2 ∧ P_law_nearest { nx := fun _ => Q .non, rt := Q } (startP 4 ds) := by
  rintro _ Q E ⟨n, c, u, v, rfl, su, hc, hv, hn, hl, q⟩
  refine ⟨rfl, ?_⟩
  show P_law_nearest _ [some (.d (.lst (c.map veD))), some (.d u), none, none]
  unfold P_law_nearest P_law_nearest_b1
  have vb := hv v (List.mem_cons_self ..)
  walk_at "pz"
  rw [List.length_map]
  refine p_rng1 (by omega) ?_
  refine p_loopR (fun j ρ => ∃ x3 : Option Pv, ρ = [some (.d (.lst (c.map veD))), some (.d u), some (.d (.int (nearI c v j : Nat))), x3]) ⟨_, rfl⟩ ?_ ?_
  · rintro j _ hj ⟨x3, rfl⟩
    have hj : j < c.length := by simpa using hj
    have lt : nearI c v j < c.length := by
      by_cases h0 : 0 < j
      · have := nearI_lt (c := c) (v := v) h0; omega
      · have : j = 0 := by omega
        subst this; show 0 < _; omega
    have c1 := hc.at hj
    have c2 := hc.at lt
    have st : nearI c v (j + 1) = if distZ (c.getD j []) v < distZ (c.getD (nearI c v j) []) v then j else nearI c v j := rfl
    walk_at "pz"
    rw [show (0 : Int) + (j : Int) = ((j : Nat) : Int) by omega]
    refine p_ixL (atI_s (getD_c hj)) ?_
    walk_at "pz"
    refine ⟨_, _, c.getD j [], v, rfl, .inr rfl, su, by rw [c1.1, vb.1], by rw [c1.1]; exact hn, c1.2, vb.2, ?_⟩
    walk_at "pz"
    refine p_ixL (atI_s (getD_c lt)) ?_
    walk_at "pz"
    refine ⟨_, _, c.getD (nearI c v j) [], v, rfl, .inr rfl, su, by rw [c2.1, vb.1], by rw [c2.1]; exact hn, c2.2, vb.2, ?_⟩
    walk_at "pz"
    refine z_itD (fun h => ?_) (fun h => ?_)
    · walk_at "pz"
      rw [if_pos h] at st
      rw [st]
      exact ⟨_, rfl⟩
    · rw [if_neg h] at st
      rw [st]
      exact ⟨_, rfl⟩
  rintro _ ⟨x3, rfl⟩
  rw [show ((c.length : Nat) : Int).toNat = c.length by simp]
  walk_at "pz"
  exact q
theorem w_law_nearest {K : PySem.W.Frag} {c : CEnv} : Wd (T_law_nearest K c) N_law_nearest 2 (sp_law_nearest K c) := wd_lift S_law_nearest q_law_nearest
theorem leD_eq {c : List (List Int)} {p a b : Nat} : leD c p a b = decide (distZ (c.getD a []) (c.getD p []) ≤ distZ (c.getD b []) (c.getD p [])) := by
  unfold leD
  rw [dataLe_def]
  rw [show PySem.W.dataLt (keyD (.int (distZ (c.getD b []) (c.getD p [])))) (keyD (.int (distZ (c.getD a []) (c.getD p [])))) = decide (distZ (c.getD b []) (c.getD p []) < distZ (c.getD a []) (c.getD p [])) from PySem.W.dataLt_int ..]
  by_cases h : distZ (c.getD b []) (c.getD p []) < distZ (c.getD a []) (c.getD p [])
  · rw [decide_eq_true h, decide_eq_false (by omega)]; rfl
  · rw [decide_eq_false h, decide_eq_true (by omega)]; rfl
theorem leD_tr (c : List (List Int)) (p : Nat) : ∀ x y z, leD c p x y = true → leD c p y z = true → leD c p x z = true := dataLe_tr _
theorem leD_to (c : List (List Int)) (p : Nat) : ∀ x y, (leD c p x y || leD c p y x) = true := dataLe_to _
theorem ordD_0 {c : List (List Int)} {p : Nat} : ordD c p 0 = [] := by unfold ordD othN; rw [List.range_zero, List.filter_nil, List.mergeSort_nil]
theorem ordD_no {c : List (List Int)} {p : Nat} : ordD c p (p + 1) = ordD c p p := by
  unfold ordD othN
  rw [List.range_succ, List.filter_append, List.filter_cons_of_neg (by simp)]
  simp
theorem ordD_yes {c : List (List Int)} {p i : Nat} (h : i ≠ p) : ordD c p (i + 1) = insA (leD c p) i (ordD c p i) := by
  unfold ordD othN
  rw [List.range_succ, List.filter_append, List.filter_cons_of_pos (by simp [h]), List.filter_nil, ← foldl_insA (leD_tr c p) (leD_to c p), ← foldl_insA (leD_tr c p) (leD_to c p), List.foldl_append]; rfl
theorem ordD_le {c : List (List Int)} {p k i j x y : Nat} (hij : i < j) (hx : (ordD c p k)[i]? = some x) (hy : (ordD c p k)[j]? = some y) : leD c p x y = true := by
  unfold ordD at hx hy
  have ps := List.pairwise_mergeSort (leD_tr c p) (leD_to c p) (othN p k)
  obtain ⟨h1, rfl⟩ := List.getElem?_eq_some_iff.mp hx
  obtain ⟨h2, rfl⟩ := List.getElem?_eq_some_iff.mp hy
  exact List.pairwise_iff_getElem.mp ps i j h1 h2 hij
def ps_law_cells : PSp := fun ds Q _ => ∃ (n : Nat) (c : List (List Int)) (p : Nat) (m : Int), ds = [cD c, .int (p : Nat), .int m] ∧ VsN n c ∧ n ≤ 1000 ∧ p < c.length ∧ c.length ≤ 1000 ∧ 0 ≤ m ∧ Q (.lst ((neighZ c p m).map fun rv => .tup [.lst (iD (c.getD p [])), .lst (iD rv)]))
def sp_law_cells (K : PySem.W.Frag) (c : CEnv) : Sp := lift K c ps_law_cells
theorem b_law_cells {K : PySem.W.Frag} {c : CEnv} : SpSim K c (sp_law_cells K c) ps_law_cells := spSim_lift
abbrev N_law_cells : List Str := ["_law_centres", "_law_k", "_law_cells_here", "_law_others", "_law_j", "_law_at", "_law_i"]
-- _law_cells(_law_centres, _law_k, _law_cells_here): slots 0:_law_centres 1:_law_k 2:_law_cells_here 3:_law_others 4:_law_j 5:_law_at 6:_law_i
def T_law_cells_b1 (K : PySem.W.Frag) (c : CEnv) : TS :=
    (tIfS (tTest (tOp uLe (tCal (sp_law_distance K c) (tCons (tOp (uIx K) (tVar 0) (tOp (uIx K) (tVar 3) (tVar 6))) (tCons (tOp (uIx K) (tVar 0) (tVar 1)) tNil))) (tCal (sp_law_distance K c) (tCons (tOp (uIx K) (tVar 0) (tVar 4)) (tCons (tOp (uIx K) (tVar 0) (tVar 1)) tNil))))) (tAsg (tOp (uAdd K) (tVar 6) (tC (.int 1))) (gName 5)) tNext)
def T_law_cells_b2 (K : PySem.W.Frag) (c : CEnv) : TS :=
    (tIfS (tTest (tOp (uNe K) (tVar 4) (tVar 1))) (tSeq (tAsg (tC (.int 0)) (gName 5))
    (tSeq (tFor (iRng1 (tCons (tCB (uLen K) (tCons (tVar 3) tNil)) tNil)) (gName 6) (T_law_cells_b1 K c))
    (tAsg (tOp (uAdd K) (tOp (uAdd K) (tSl (uSl K) (tVar 3) tNoPart (tPart (tVar 5))) (tLst (tCons (tVar 4) tNil))) (tSl (uSl K) (tVar 3) (tPart (tVar 5)) tNoPart)) (gName 3)))) tNext)
def T_law_cells (K : PySem.W.Frag) (c : CEnv) : TS :=
    (tSeq (tAsg (tLst tNil) (gName 3))
    (tSeq (tFor (iRng1 (tCons (tCB (uLen K) (tCons (tVar 0) tNil)) tNil)) (gName 4) (T_law_cells_b2 K c))
    (tRet (tLc (iSq K (tSl (uSl K) (tVar 3) tNoPart (tPart (tVar 2)))) (gName 4) tYes (tTup (tCons (tCB (uList K) (tCons (tOp (uIx K) (tVar 0) (tVar 1)) tNil)) (tCons (tCB (uList K) (tCons (tOp (uIx K) (tVar 0) (tVar 4)) tNil)) tNil))) [4]))))
def P_law_cells_b1 : PSt :=
    (pIfS (pTest (pOp pLe (pCal ps_law_distance (pCons (pOp pIx (pVar 0) (pOp pIx (pVar 3) (pVar 6))) (pCons (pOp pIx (pVar 0) (pVar 1)) pNil))) (pCal ps_law_distance (pCons (pOp pIx (pVar 0) (pVar 4)) (pCons (pOp pIx (pVar 0) (pVar 1)) pNil))))) (pAsg (pOp pAdd (pVar 6) (pC (.int 1))) (pgName 5)) pNext)
def P_law_cells_b2 : PSt :=
    (pIfS (pTest (pOp pNe (pVar 4) (pVar 1))) (pSeq (pAsg (pC (.int 0)) (pgName 5))
    (pSeq (pFor (piRng1 (pCons (pCB pLen (pCons (pVar 3) pNil)) pNil)) (pgName 6) P_law_cells_b1)
    (pAsg (pOp pAdd (pOp pAdd (pSl (pVar 3) pNoPart (pPart (pVar 5))) (pLst (pCons (pVar 4) pNil))) (pSl (pVar 3) (pPart (pVar 5)) pNoPart)) (pgName 3)))) pNext)
def P_law_cells : PSt :=
    (pSeq (pAsg (pLst pNil) (pgName 3))
    (pSeq (pFor (piRng1 (pCons (pCB pLen (pCons (pVar 0) pNil)) pNil)) (pgName 4) P_law_cells_b2)
    (pRet (pLc (piSq (pSl (pVar 3) pNoPart (pPart (pVar 2)))) (pgName 4) pYes (pTup (pCons (pCB pList (pCons (pOp pIx (pVar 0) (pVar 1)) pNil)) (pCons (pCB pList (pCons (pOp pIx (pVar 0) (pVar 4)) pNil)) pNil))) [4]))))
theorem S_law_cells {K : PySem.W.Frag} {c : CEnv} : SimS ⟨K, c, W0, fun _ _ => False⟩ (T_law_cells K c) (P_law_cells) := by
  unfold T_law_cells P_law_cells T_law_cells_b2 T_law_cells_b1 P_law_cells_b2 P_law_cells_b1
  exact (sim_seq (sim_asg (sim_lst sim_nil) (sim_gName 3))
    (sim_seq (sim_for (sim_iRng1 (sim_cons (sim_cb sim_len (sim_cons (sim_var 0) sim_nil)) sim_nil)) (sim_gName 4) (sim_ifS (sim_test (sim_op sim_ne (sim_var 4) (sim_var 1))) (sim_seq (sim_asg (sim_int _) (sim_gName 5))
    (sim_seq (sim_for (sim_iRng1 (sim_cons (sim_cb sim_len (sim_cons (sim_var 3) sim_nil)) sim_nil)) (sim_gName 6) (sim_ifS (sim_test (sim_op sim_le (sim_cal b_law_distance (sim_cons (sim_op sim_ix (sim_var 0) (sim_op sim_ix (sim_var 3) (sim_var 6))) (sim_cons (sim_op sim_ix (sim_var 0) (sim_var 1)) sim_nil))) (sim_cal b_law_distance (sim_cons (sim_op sim_ix (sim_var 0) (sim_var 4)) (sim_cons (sim_op sim_ix (sim_var 0) (sim_var 1)) sim_nil))))) (sim_asg (sim_op sim_add (sim_var 6) (sim_int _)) (sim_gName 5)) sim_next))
    (sim_asg (sim_op sim_add (sim_op sim_add (sim_sl (sim_var 3) sim_noPart (sim_part (sim_var 5))) (sim_lst (sim_cons (sim_var 4) sim_nil))) (sim_sl (sim_var 3) (sim_part (sim_var 5)) sim_noPart)) (sim_gName 3)))) sim_next))
    (sim_ret (sim_lc (sim_iSq (sim_sl (sim_var 3) sim_noPart (sim_part (sim_var 2)))) (sim_gName 4) (by decide) sim_yes (sim_tup (sim_cons (sim_cb sim_list (sim_cons (sim_op sim_ix (sim_var 0) (sim_var 1)) sim_nil)) (sim_cons (sim_cb sim_list (sim_cons (sim_op sim_ix (sim_var 0) (sim_var 4)) sim_nil)) sim_nil)))))))

theorem q_law_cells : ∀ ds Q E, ps_law_cells ds Q E → ds.length = 3 ∧ P_law_cells { nx := fun _ => Q .non, rt := Q } (startP 7 ds) := by
  rintro _ Q E ⟨n, c, k, m, rfl, hc, hn, hk, hl, hm, q⟩
  refine ⟨rfl, ?_⟩
  show P_law_cells _ [some (.d (.lst (c.map veD))), some (.d (.int (k : Nat))), some (.d (.int m)), none, none, none, none]
  unfold P_law_cells P_law_cells_b2 P_law_cells_b1
  have kb := hc.at hk
  walk_at "pz"
  rw [List.length_map]
  refine p_rng1 (by omega) ?_
  refine p_loopR (fun j ρ => ∃ x4 x5 x6 : Option Pv, ρ = [some (.d (.lst (c.map veD))), some (.d (.int (k : Nat))), some (.d (.int m)), some (.d (.lst (nD (ordD c k j)))), x4, x5, x6]) ⟨_, _, _, by rw [ordD_0]; rfl⟩ ?_ ?_
  · rintro j _ hj ⟨x4, x5, x6, rfl⟩
    have hj : j < c.length := by simpa using hj
    have jb := hc.at hj
    have ol := ordD_len c k j
    rw [show (0 : Int) + (j : Int) = ((j : Nat) : Int) by omega]
    walk_at "pz"
    by_cases hjk : j = k
    · subst hjk
      rw [decide_eq_true rfl]
      walk_at "px"
      rw [ordD_no]
      exact ⟨_, _, _, rfl⟩
    rw [decide_eq_false (show ¬ ((j : Nat) : Int) = ((k : Nat) : Int) by omega)]
    walk_at "px"
    rw [nD_len]
    refine p_rng1 (by omega) ?_
    refine p_loopR (fun i ρ => ∃ (p : Nat) (x6 : Option Pv), p ≤ i ∧ (∀ (q : Nat) (z : Nat), q < p → (ordD c k j)[q]? = some z → leD c k z j = true) ∧ (∀ (q : Nat) (z : Nat), p ≤ q → q < i → (ordD c k j)[q]? = some z → leD c k z j = false) ∧ ρ = [some (.d (.lst (c.map veD))), some (.d (.int (k : Nat))), some (.d (.int m)), some (.d (.lst (nD (ordD c k j)))), some (.d (.int (j : Nat))), some (.d (.int (p : Nat))), x6]) ⟨0, _, Nat.le_refl _, (fun q z hq => absurd hq (Nat.not_lt_zero _)), (fun q z h1 h2 => absurd h2 (Nat.not_lt_zero _)), rfl⟩ ?_ ?_
    · rintro i _ hi ⟨p, x6, pj, pa, pb, rfl⟩
      have hi : i < (ordD c k j).length := by simpa using hi
      have ei : (ordD c k j)[i]? = some (ordD c k j)[i] := List.getElem?_eq_getElem hi
      generalize (ordD c k j)[i] = y at ei
      have ym := ordD_mem (List.mem_of_getElem? ei)
      have yl : y < c.length := by omega
      have yb := hc.at yl
      rw [show (0 : Int) + (i : Int) = ((i : Nat) : Int) by omega]
      walk_at "pz"
      refine p_ixL (atI_s (nD_at ei)) ?_
      refine p_ixL (atI_s (getD_c yl)) ?_
      walk_at "pz"
      refine p_ixL (atI_s (getD_c hk)) ?_
      walk_at "pz"
      refine ⟨_, _, c.getD y [], c.getD k [], rfl, .inr rfl, .inr rfl, by rw [yb.1, kb.1], by rw [yb.1]; exact hn, yb.2, kb.2, ?_⟩
      walk_at "pz"
      refine p_ixL (atI_s (getD_c hj)) ?_
      walk_at "pz"
      refine p_ixL (atI_s (getD_c hk)) ?_
      walk_at "pz"
      refine ⟨_, _, c.getD j [], c.getD k [], rfl, .inr rfl, .inr rfl, by rw [jb.1, kb.1], by rw [jb.1]; exact hn, jb.2, kb.2, ?_⟩
      walk_at "pz"
      rw [← leD_eq]
      cases e : leD c k y j with
      | true =>
        walk_at "px"
        refine ⟨i + 1, _, Nat.le_refl _, fun q z hq hz => ?_, fun q z h1 h2 => absurd h1 (by omega), by rw [show ((i : Int) + 1) = ((i + 1 : Nat) : Int) by omega]⟩
        rcases Nat.lt_or_ge q i with h3 | h3
        · exact leD_tr c k _ _ _ (ordD_le h3 hz ei) e
        · have : q = i := by omega
          subst this
          rw [ei] at hz
          cases hz
          exact e
      | false =>
        walk_at "px"
        refine ⟨p, _, by omega, pa, fun q z h1 h2 hz => ?_, rfl⟩
        rcases Nat.lt_or_ge q i with h3 | h3
        · exact pb q z h1 h3 hz
        · have : q = i := by omega
          subst this
          rw [ei] at hz
          cases hz
          exact e
    · rintro _ ⟨p, x6, pj, pa, pb, rfl⟩
      have pj : p ≤ (ordD c k j).length := by simpa using pj
      have key := insA_at (α := Nat) (le := leD c k) (y := j) (L := ordD c k j) (p := p) pj pa fun z hz => pb p z (Nat.le_refl _) (by have := (List.getElem?_eq_some_iff.mp hz).1; simpa using this) hz
      rw [← ordD_yes hjk] at key
      walk_at "pz"
      rw [cutD_to]
      refine p_addL (by rw [List.length_take, nD_len]; simp; omega) ?_
      walk_at "pz"
      rw [cutD_fr]
      refine p_addL (by rw [List.length_append, List.length_take, List.length_drop, nD_len]; simp; omega) ?_
      walk_at "pz"
      rw [show (nD (ordD c k j)).take p ++ [Da.int ((j : Nat) : Int)] ++ (nD (ordD c k j)).drop p = nD (ordD c k (j + 1)) by
        unfold nD
        rw [← key, List.map_append, List.map_cons, List.map_take, List.map_drop, List.append_assoc]; rfl]
      exact ⟨_, _, _, rfl⟩
  rintro _ ⟨x4, x5, x6, rfl⟩
  rw [show ((c.length : Nat) : Int).toNat = c.length by simp]
  have ol := ordD_len c k c.length
  walk_at "pz"
  obtain ⟨mm, rfl⟩ := Int.eq_ofNat_of_zero_le hm
  rw [cutD_to, show (nD (ordD c k c.length)).take mm = ((ordD c k c.length).take mm).map fun i : Nat => Da.int (i : Nat) by unfold nD; rw [List.map_take]]
  refine p_compM (fun i : Nat => Da.int (i : Nat)) (fun i => .tup [.lst (iD (c.getD k [])), .lst (iD (c.getD i []))]) (by rw [List.length_take]; omega) (fun i R hi kk => ?_) ?_
  · have il : i < c.length := (ordD_mem (List.mem_of_mem_take hi)).1
    walk_at "pz"
    refine p_ixL (atI_s (getD_c hk)) ?_
    unfold veD
    walk_at "pz"
    refine p_ixL (atI_s (show (c.map fun v => Da.tup (iD v))[i]? = some (.tup (iD (c.getD i []))) from getD_c il)) ?_
    walk_at "pz"
    exact kk
  unfold neighZ at q
  rw [List.map_map, Int.toNat_natCast] at q
  exact q
theorem w_law_cells {K : PySem.W.Frag} {c : CEnv} : Wd (T_law_cells K c) N_law_cells 3 (sp_law_cells K c) := wd_lift S_law_cells q_law_cells
def rowR (x : Da × List Int) : Da := .tup [x.1, .lst (iD x.2)]
def ps_law_rows_of : PSp := fun ds Q _ => ∃ (n : Nat) (sp : Int), ds = [.st, .int (n : Nat), .int sp] ∧ n ≤ 3 ∧ 1 ≤ sp ∧ sp ≤ 100 ∧ ∀ rs : List (Da × List Int), rs.length ≤ 8 → VsN n (rs.map (·.2)) → Q (.lst (rs.map rowR))
def sp_law_rows_of (K : PySem.W.Frag) (c : CEnv) : Sp := lift K c ps_law_rows_of
theorem b_law_rows_of {K : PySem.W.Frag} {c : CEnv} : SpSim K c (sp_law_rows_of K c) ps_law_rows_of := spSim_lift
abbrev N_law_rows_of : List Str := ["_law_state", "_law_size", "_law_spread", "_law_rows", "_law_k", "_law_vector", "_law_j"]
-- _law_rows_of(_law_state, _law_size, _law_spread): slots 0:_law_state 1:_law_size 2:_law_spread 3:_law_rows 4:_law_k 5:_law_vector 6:_law_j
def T_law_rows_of_b1 (K : PySem.W.Frag) : TS :=
    (tSeq (tAsg (tLc (iRng1 (tCons (tVar 1) tNil)) (gName 6) tYes (tCal (sp_law_next K) (tCons (tVar 0) (tCons (tVar 2) tNil))) [6]) (gName 5))
    (tDrop (tBM K "list" rAppend (tVar 3) (tCons (tTup (tCons (tOp (uAdd K) (tC (.str "r")) (tCB uStr (tCons (tVar 4) tNil))) (tCons (tVar 5) tNil))) tNil))))
def T_law_rows_of (K : PySem.W.Frag) : TS :=
    (tSeq (tAsg (tLst tNil) (gName 3))
    (tSeq (tFor (iRng1 (tCons (tCal (sp_law_next K) (tCons (tVar 0) (tCons (tC (.int 9)) tNil))) tNil)) (gName 4) (T_law_rows_of_b1 K))
    (tRet (tVar 3))))
def P_law_rows_of_b1 : PSt :=
    (pSeq (pAsg (pLc (piRng1 (pCons (pVar 1) pNil)) (pgName 6) pYes (pCal ps_law_next (pCons (pVar 0) (pCons (pVar 2) pNil))) [6]) (pgName 5))
    (pApp 3 (pTup (pCons (pOp pAdd (pC (.str "r")) (pCB pStr (pCons (pVar 4) pNil))) (pCons (pVar 5) pNil)))))
def P_law_rows_of : PSt :=
    (pSeq (pAsgO 3 (pNewL pNil))
    (pSeq (pFor (piRng1 (pCons (pCal ps_law_next (pCons (pVar 0) (pCons (pC (.int 9)) pNil))) pNil)) (pgName 4) P_law_rows_of_b1)
    (pFrz 3 (pRet (pVar 3)))))
theorem S_law_rows_of {K : PySem.W.Frag} {c : CEnv} : SimS ⟨K, c, W0, fun _ _ => False⟩ (T_law_rows_of K) (P_law_rows_of) := by
  unfold T_law_rows_of P_law_rows_of T_law_rows_of_b1 P_law_rows_of_b1
  exact (sim_seq (sim_asgO (simF_lst sim_nil))
    (sim_seq (sim_for (sim_iRng1 (sim_cons (sim_cal b_law_next (sim_cons (sim_var 0) (sim_cons (sim_int _) sim_nil))) sim_nil)) (sim_gName 4) (sim_seq (sim_asg (sim_lc (sim_iRng1 (sim_cons (sim_var 1) sim_nil)) (sim_gName 6) (by decide) sim_yes (sim_cal b_law_next (sim_cons (sim_var 0) (sim_cons (sim_var 2) sim_nil)))) (sim_gName 5))
    (sim_app (sim_tup (sim_cons (sim_op sim_add (sim_str _) (sim_cb sim_strB (sim_cons (sim_var 4) sim_nil))) (sim_cons (sim_var 5) sim_nil))))))
    (sim_frz (sim_ret (sim_var 3)))))

theorem q_law_rows_of : ∀ ds Q E, ps_law_rows_of ds Q E → ds.length = 3 ∧ P_law_rows_of { nx := fun _ => Q .non, rt := Q } (startP 7 ds) := by
  rintro _ Q E ⟨n, sp, rfl, hn, s1, s2, q⟩
  refine ⟨rfl, ?_⟩
  show P_law_rows_of _ [some (.d .st), some (.d (.int (n : Nat))), some (.d (.int sp)), none, none, none, none]
  unfold P_law_rows_of P_law_rows_of_b1
  walk_at "pz"
  refine next_c (by decide) (by decide) fun m m0 m1 => ?_
  refine p_rng1 (by omega) ?_
  refine p_loopR (fun i ρ => ∃ (rs : List (Da × List Int)) (x4 x5 x6 : Option Pv), rs.length = i ∧ VsN n (rs.map (·.2)) ∧ ρ = [some (.d .st), some (.d (.int (n : Nat))), some (.d (.int sp)), some (.own (rs.map rowR)), x4, x5, x6]) ⟨[], _, _, _, rfl, (by intro v hv; cases hv), rfl⟩ ?_ ?_
  · rintro i _ hi ⟨rs, x4, x5, x6, hl, hv, rfl⟩
    walk_at "pz"
    refine p_rng1 (by omega) ?_
    refine p_compS Da.int (fun x => 0 ≤ x ∧ x < sp) (by rw [rngD_len]; omega) (fun i x k hx hk => ?_) fun u vl vb => ?_
    · walk_at "pz"
      exact next_c (by omega) (by omega) fun b b0 b1 => hk b ⟨b0, b1⟩
    rw [rngD_len, Int.toNat_natCast] at vl
    walk_at "pz"
    rotate_left
    · rw [List.length_map]; omega
    rw [show (0 : Int) + (i : Int) = ((i : Nat) : Int) by omega]
    refine p_strI (by have : ((i : Nat) : Int).natAbs = i := by simp
                      rw [this]; exact Nat.lt_of_le_of_lt (Nat.log2_le_self i) (by omega)) ?_
    refine p_addS (by exact rlen i (by omega)) ?_
    walk_at "pz"
    refine ⟨rs ++ [(_, u)], _, _, _, by rw [List.length_append, hl]; rfl, fun v hv' => ?_, by rw [List.map_append]; rfl⟩
    rw [List.map_append] at hv'
    rcases List.mem_append.mp hv' with h | h
    · exact hv v h
    · have : v = u := by simpa using h
      subst this
      exact ⟨vl, fun x hx => by have := vb x hx; unfold VM; omega⟩
  rintro _ ⟨rs, x4, x5, x6, hl, hv, rfl⟩
  walk_at "pz"
  exact q rs (by omega) hv
theorem w_law_rows_of {K : PySem.W.Frag} {c : CEnv} : Wd (T_law_rows_of K) N_law_rows_of 3 (sp_law_rows_of K c) := wd_lift S_law_rows_of q_law_rows_of

local macro_rules | `(tactic| walk_at "pu") => `(tactic| (with_reducible first | refine p_istr ?_ | refine p_cstT ?_ | refine p_kout ?_ | refine p_kin ?_ | refine p_kst ?_ | refine p_ord ?_ | refine p_izip2 ?_ | refine p_izip3 ?_ | (refine p_zip2 (by first | exact seqL | exact seqT | assumption) (by first | exact seqL | exact seqT | assumption) ?_) | (refine p_zip3 (by first | exact seqL | exact seqT | assumption) (by first | exact seqL | exact seqT | assumption) (by first | exact seqL | exact seqT | assumption) ?_) | (refine p_lenS (by omega) ?_)))
local macro_rules | `(tactic| walk_at "pv") => `(tactic| repeat (first | walk_at "p1" | walk_at "pu"))
local macro_rules | `(tactic| walk_at "pw") => `(tactic| repeat (first | walk_at "p1" | walk_at "pu" | walk_at "pd"))

theorem sc1_ok {n : Nat} (h : 1 ≤ n) : (SchF.mk (n : Int) "small" "square" []).Ok := ⟨(by show (1 : Int) ≤ n; omega), (by show (RNG.lookup ("small" : Str)).isSome = true; decide +kernel), (by show ("square" : Str) ∈ MSR; decide +kernel), (fun z => absurd (show ("square" : Str) = "bits" from z) (by decide +kernel)), (fun x hx => by cases hx), List.nodup_nil, Nat.zero_le _⟩
theorem own_yes {c vs : List (List Int)} {k j : Nat} (h : nearZ c (vs.getD j []) = k) : ownN c vs k (j + 1) = ownN c vs k j ++ [j] := by
  unfold ownN
  rw [List.range_succ, List.filter_append, List.filter_cons_of_pos (p := fun i => decide (nearZ c (vs.getD i []) = k)) (decide_eq_true h)]; rfl
theorem own_no {c vs : List (List Int)} {k j : Nat} (h : nearZ c (vs.getD j []) ≠ k) : ownN c vs k (j + 1) = ownN c vs k j := by
  unfold ownN
  rw [List.range_succ, List.filter_append, List.filter_cons_of_neg (p := fun i => decide (nearZ c (vs.getD i []) = k)) (fun z => h (of_decide_eq_true z))]; simp
theorem sksz {nb : List (List Int)} {u : List Int} (h : nb.length ≤ 1000) : (skC nb u).Sz := ⟨by show 1 ≤ 1000; decide, by show (nb.map fun rv => (u, rv)).length ≤ 1000; rw [List.length_map]; exact h⟩
theorem stp_sz {k : Nat} {sz : Int} : ∀ (ow : List Nat) (st : List SkF × List Int × Nat), (∀ s ∈ st.1, s.Sz) → ∀ s ∈ (ow.foldl (stp3 k sz) st).1, s.Sz
  | [], st, h => h
  | a :: ow, st, h => by
    rw [List.foldl_cons]
    refine stp_sz ow _ fun s hs => ?_
    have hs : s ∈ (if (st.2.2 : Int) % sz = 0 then st.1 ++ [⟨some k, [], []⟩] else st.1) := hs
    split at hs
    · rcases List.mem_append.mp hs with z | z
      · exact h s z
      · rw [List.mem_singleton.mp z]; exact ⟨Nat.zero_le _, Nat.zero_le _⟩
    · exact h s hs
theorem out_sz {c vs : List (List Int)} {sz : Int} {S : List SkF} (h : ∀ s ∈ S, s.Sz) : ∀ k, ∀ s ∈ (outZ c vs sz S k).1, s.Sz
  | 0 => h
  | k + 1 => stp_sz _ _ (out_sz h k)
theorem S0_sz {c : List (List Int)} {ce : Int} (h : c.length ≤ 1000) : ∀ s ∈ S0 c ce, s.Sz := fun s hs => by
  unfold S0 at hs
  obtain ⟨k, _, rfl⟩ := List.mem_map.mp hs
  exact sksz (Nat.le_trans neigh_len h)
abbrev N_law : List Str := ["_law_script", "_law_state", "_law_size", "_law_rows", "_law_many", "_law_rounds", "_law_cells_here", "_law_block", "_law_records", "_law_name", "_law_vector", "_law_actual", "_law_centres", "_law_due", "_law_k", "_law_leaves", "_law_row_here", "_law_count", "_law_j"]
-- law(_law_script): slots 0:_law_script 1:_law_state 2:_law_size 3:_law_rows 4:_law_many 5:_law_rounds 6:_law_cells_here 7:_law_block 8:_law_records 9:_law_name 10:_law_vector 11:_law_actual 12:_law_centres 13:_law_due 14:_law_k 15:_law_leaves 16:_law_row_here 17:_law_count 18:_law_j
def T_law_b1 (K : PySem.W.Frag) (c : CEnv) : TS :=
    (tIfS (tTest (tOp (uEq K) (tCal (sp_law_nearest K c) (tCons (tVar 12) (tCons (tOp (uIx K) (tOp (uIx K) (tVar 3) (tVar 18)) (tC (.int 1))) tNil))) (tVar 14))) (tCut (tIfS (tTest (tOp (uEq K) (tOp uMod (tCB uInt (tCons (tVar 17) tNil)) (tVar 7)) (tC (.int 0)))) (tDrop (tBM K "list" rAppend (tVar 13) (tCons (tTup (tCons (tVar 14) (tCons (tLst tNil) (tCons (tLst tNil) tNil)))) tNil))) tNext)
    (tSeq (tAsg (tOp uSub (tCB (uLen K) (tCons (tVar 13) tNil)) (tC (.int 1))) (gSub (tVar 15) (tVar 18) rSetL))
    (tAsg (tOp (uAdd K) (tVar 17) (tC (.int 1))) (gName 17)))) tNext)
def T_law_b2 (K : PySem.W.Frag) (c : CEnv) : TS :=
    (tSeq (tAsg (tC (.int 0)) (gName 17))
    (tFor (iRng1 (tCons (tCB (uLen K) (tCons (tVar 3) tNil)) tNil)) (gName 18) (T_law_b1 K c)))
def T_law (K : PySem.W.Frag) (c : CEnv) : TS :=
    (tSeq (tAsg (tLst (tCons (tCB (uList K) (tCons (tVar 0) tNil)) (tCons (tC (.int 0)) (tCons (tC (.int 0)) tNil)))) (gName 1))
    (tSeq (tAsg (tOp (uAdd K) (tC (.int 1)) (tCal (sp_law_next K) (tCons (tVar 1) (tCons (tC (.int 3)) tNil)))) (gName 2))
    (tSeq (tAsg (tCal (sp_law_rows_of K c) (tCons (tVar 1) (tCons (tVar 2) (tCons (tOp (uIx K) (tLst (tCons (tC (.int 3)) (tCons (tC (.int 9)) (tCons (tC (.int 100)) tNil)))) (tCal (sp_law_next K) (tCons (tVar 1) (tCons (tC (.int 3)) tNil)))) tNil)))) (gName 3))
    (tSeq (tAsg (tOp (uAdd K) (tC (.int 1)) (tCal (sp_law_next K) (tCons (tVar 1) (tCons (tC (.int 5)) tNil)))) (gName 4))
    (tSeq (tAsg (tCal (sp_law_next K) (tCons (tVar 1) (tCons (tC (.int 3)) tNil))) (gName 5))
    (tSeq (tAsg (tCal (sp_law_next K) (tCons (tVar 1) (tCons (tC (.int 5)) tNil))) (gName 6))
    (tSeq (tAsg (tOp (uAdd K) (tC (.int 1)) (tCal (sp_law_next K) (tCons (tVar 1) (tCons (tC (.int 3)) tNil)))) (gName 7))
    (tSeq (tAsg (tLc (iSq K (tVar 3)) (gTup K 2 (gCons (gName 9) (gCons (gName 10) gNil))) tYes (tMkK K c "Record" ["name", "vector", "fields", "words"] 2 0 [.e, .e] [(false, 0), (false, 1)] (sp_Record_init K c) W0 (tCons (tVar 9) (tCons (tCB (uList K) (tCons (tVar 10) tNil)) tNil)) tNil) [9, 10]) (gName 8))
    (tSeq (tAsg (tMt c "Lists" "layout" (sp_Lists_layout K c) (tMkK K c "Lists" ["centres", "rounds", "cells", "size"] 1 3 [] [(true, 0), (true, 1), (true, 2)] (sp_Lists_init K c) W0 (tCons (tVar 4) tNil) (tCons (tVar 5) (tCons (tVar 6) (tCons (tVar 7) tNil)))) (tCons (tMkK K c "Schema" ["size", "width", "measure", "fields"] 1 0 [(.v (.str "small")), (.v (.str "square")), .e] [(false, 0), (false, 1), (false, 2)] (sp_Schema_init K c) W0 (tCons (tVar 2) tNil) tNil) (tCons (tCB (uList K) (tCons (tVar 8) tNil)) tNil))) (gName 11))
    (tSeq (tAsg (tCal (sp_train K c) (tCons (tLc (iSq K (tVar 3)) (gTup K 2 (gCons (gName 9) (gCons (gName 10) gNil))) tYes (tCB (uTuple K) (tCons (tVar 10) tNil)) [9, 10]) (tCons (tVar 4) (tCons (tVar 5) tNil)))) (gName 12))
    (tSeq (tAsg (tLc (iRng1 (tCons (tCB (uLen K) (tCons (tVar 12) tNil)) tNil)) (gName 14) tYes (tTup (tCons (tC .non) (tCons (tLst (tCons (tTup (tCons (tC (.int 0)) (tCons (tCB (uList K) (tCons (tOp (uIx K) (tVar 12) (tVar 14)) tNil)) tNil))) tNil)) (tCons (tCal (sp_law_cells K c) (tCons (tVar 12) (tCons (tVar 14) (tCons (tVar 6) tNil)))) tNil)))) [14]) (gName 13))
    (tSeq (tAsg (tLc (iSq K (tVar 3)) (gName 16) tYes (tC (.int 0)) [16]) (gName 15))
    (tSeq (tFor (iRng1 (tCons (tCB (uLen K) (tCons (tVar 12) tNil)) tNil)) (gName 14) (T_law_b2 K c))
    (tRet (tOp (uEq K) (tCal (sp_law_shown K c) (tCons (tVar 11) tNil)) (tTup (tCons (tVar 13) (tCons (tVar 15) tNil))))))))))))))))))
def U_law (K : PySem.W.Frag) (c : CEnv) : TS :=
    (tSeq (tAsg (tOp (uAdd K) (tC (.int 1)) (tCal (sp_law_next K) (tCons (tVar 1) (tCons (tC (.int 3)) tNil)))) (gName 2)) (tSeq (tAsg (tCal (sp_law_rows_of K c) (tCons (tVar 1) (tCons (tVar 2) (tCons (tOp (uIx K) (tLst (tCons (tC (.int 3)) (tCons (tC (.int 9)) (tCons (tC (.int 100)) tNil)))) (tCal (sp_law_next K) (tCons (tVar 1) (tCons (tC (.int 3)) tNil)))) tNil)))) (gName 3)) (tSeq (tAsg (tOp (uAdd K) (tC (.int 1)) (tCal (sp_law_next K) (tCons (tVar 1) (tCons (tC (.int 5)) tNil)))) (gName 4)) (tSeq (tAsg (tCal (sp_law_next K) (tCons (tVar 1) (tCons (tC (.int 3)) tNil))) (gName 5)) (tSeq (tAsg (tCal (sp_law_next K) (tCons (tVar 1) (tCons (tC (.int 5)) tNil))) (gName 6)) (tSeq (tAsg (tOp (uAdd K) (tC (.int 1)) (tCal (sp_law_next K) (tCons (tVar 1) (tCons (tC (.int 3)) tNil)))) (gName 7)) (tSeq (tAsg (tLc (iSq K (tVar 3)) (gTup K 2 (gCons (gName 9) (gCons (gName 10) gNil))) tYes (tMkK K c "Record" ["name", "vector", "fields", "words"] 2 0 [.e, .e] [(false, 0), (false, 1)] (sp_Record_init K c) W0 (tCons (tVar 9) (tCons (tCB (uList K) (tCons (tVar 10) tNil)) tNil)) tNil) [9, 10]) (gName 8)) (tSeq (tAsg (tMt c "Lists" "layout" (sp_Lists_layout K c) (tMkK K c "Lists" ["centres", "rounds", "cells", "size"] 1 3 [] [(true, 0), (true, 1), (true, 2)] (sp_Lists_init K c) W0 (tCons (tVar 4) tNil) (tCons (tVar 5) (tCons (tVar 6) (tCons (tVar 7) tNil)))) (tCons (tMkK K c "Schema" ["size", "width", "measure", "fields"] 1 0 [(.v (.str "small")), (.v (.str "square")), .e] [(false, 0), (false, 1), (false, 2)] (sp_Schema_init K c) W0 (tCons (tVar 2) tNil) tNil) (tCons (tCB (uList K) (tCons (tVar 8) tNil)) tNil))) (gName 11)) (tSeq (tAsg (tCal (sp_train K c) (tCons (tLc (iSq K (tVar 3)) (gTup K 2 (gCons (gName 9) (gCons (gName 10) gNil))) tYes (tCB (uTuple K) (tCons (tVar 10) tNil)) [9, 10]) (tCons (tVar 4) (tCons (tVar 5) tNil)))) (gName 12)) (tSeq (tAsg (tLc (iRng1 (tCons (tCB (uLen K) (tCons (tVar 12) tNil)) tNil)) (gName 14) tYes (tTup (tCons (tC .non) (tCons (tLst (tCons (tTup (tCons (tC (.int 0)) (tCons (tCB (uList K) (tCons (tOp (uIx K) (tVar 12) (tVar 14)) tNil)) tNil))) tNil)) (tCons (tCal (sp_law_cells K c) (tCons (tVar 12) (tCons (tVar 14) (tCons (tVar 6) tNil)))) tNil)))) [14]) (gName 13)) (tSeq (tAsg (tLc (iSq K (tVar 3)) (gName 16) tYes (tC (.int 0)) [16]) (gName 15)) (tSeq (tFor (iRng1 (tCons (tCB (uLen K) (tCons (tVar 12) tNil)) tNil)) (gName 14) (T_law_b2 K c)) (tRet (tOp (uEq K) (tCal (sp_law_shown K c) (tCons (tVar 11) tNil)) (tTup (tCons (tVar 13) (tCons (tVar 15) tNil)))))))))))))))))
def P_law_b1 : PSt :=
    (pIfS (pTest (pOp pEq (pCal ps_law_nearest (pCons (pVar 12) (pCons (pOp pIx (pOp pIx (pVar 3) (pVar 18)) (pC (.int 1))) pNil))) (pVar 14))) (pCut (pIfS (pTest (pOp pEq (pOp pMod (pCB pInt (pCons (pVar 17) pNil)) (pVar 7)) (pC (.int 0)))) (pApp 13 (pTup (pCons (pVar 14) (pCons (pLst pNil) (pCons (pLst pNil) pNil))))) pNext)
    (pSeq (pSetI 15 (pVar 18) (pOp pSub (pBor 13 (pCB pLen (pCons (pVar 13) pNil))) (pC (.int 1))))
    (pAsg (pOp pAdd (pVar 17) (pC (.int 1))) (pgName 17)))) pNext)
def P_law_b2 : PSt :=
    (pSeq (pAsg (pC (.int 0)) (pgName 17))
    (pFor (piRng1 (pCons (pCB pLen (pCons (pVar 3) pNil)) pNil)) (pgName 18) P_law_b1))
def P_law : PSt :=
    (pSeq (pAsg (pOp pAdd (pC (.int 1)) (pCal ps_law_next (pCons (pVar 1) (pCons (pC (.int 3)) pNil)))) (pgName 2))
    (pSeq (pAsg (pCal ps_law_rows_of (pCons (pVar 1) (pCons (pVar 2) (pCons (pOp pIx (pLst (pCons (pC (.int 3)) (pCons (pC (.int 9)) (pCons (pC (.int 100)) pNil)))) (pCal ps_law_next (pCons (pVar 1) (pCons (pC (.int 3)) pNil)))) pNil)))) (pgName 3))
    (pSeq (pAsg (pOp pAdd (pC (.int 1)) (pCal ps_law_next (pCons (pVar 1) (pCons (pC (.int 5)) pNil)))) (pgName 4))
    (pSeq (pAsg (pCal ps_law_next (pCons (pVar 1) (pCons (pC (.int 3)) pNil))) (pgName 5))
    (pSeq (pAsg (pCal ps_law_next (pCons (pVar 1) (pCons (pC (.int 5)) pNil))) (pgName 6))
    (pSeq (pAsg (pOp pAdd (pC (.int 1)) (pCal ps_law_next (pCons (pVar 1) (pCons (pC (.int 3)) pNil)))) (pgName 7))
    (pSeq (pAsg (pLc (piSq (pVar 3)) (pgTup 2 (pgCons (pgName 9) (pgCons (pgName 10) pgNil))) pYes (pMkK (fun _ _ => False) "Record" ["name", "vector", "fields", "words"] 2 0 [.e, .e] [(false, 0), (false, 1)] ps_Record_init (pCons (pVar 9) (pCons (pCB pList (pCons (pVar 10) pNil)) pNil)) pNil) [9, 10]) (pgName 8))
    (pSeq (pAsg (pMt "Lists" "layout" ps_Lists_layout (pMkK (fun _ _ => False) "Lists" ["centres", "rounds", "cells", "size"] 1 3 [] [(true, 0), (true, 1), (true, 2)] ps_Lists_init (pCons (pVar 4) pNil) (pCons (pVar 5) (pCons (pVar 6) (pCons (pVar 7) pNil)))) (pCons (pMkK (fun _ _ => False) "Schema" ["size", "width", "measure", "fields"] 1 0 [(.v (.str "small")), (.v (.str "square")), .e] [(false, 0), (false, 1), (false, 2)] ps_Schema_init (pCons (pVar 2) pNil) pNil) (pCons (pCB pList (pCons (pVar 8) pNil)) pNil))) (pgName 11))
    (pSeq (pAsg (pCal ps_train (pCons (pLc (piSq (pVar 3)) (pgTup 2 (pgCons (pgName 9) (pgCons (pgName 10) pgNil))) pYes (pCB pTuple (pCons (pVar 10) pNil)) [9, 10]) (pCons (pVar 4) (pCons (pVar 5) pNil)))) (pgName 12))
    (pSeq (pAsgO 13 (pLcF (piRng1 (pCons (pCB pLen (pCons (pVar 12) pNil)) pNil)) (pgName 14) pYes (pTup (pCons (pC .non) (pCons (pLst (pCons (pTup (pCons (pC (.int 0)) (pCons (pCB pList (pCons (pOp pIx (pVar 12) (pVar 14)) pNil)) pNil))) pNil)) (pCons (pCal ps_law_cells (pCons (pVar 12) (pCons (pVar 14) (pCons (pVar 6) pNil)))) pNil)))) [14]))
    (pSeq (pAsgO 15 (pLcF (piSq (pVar 3)) (pgName 16) pYes (pC (.int 0)) [16]))
    (pSeq (pFor (piRng1 (pCons (pCB pLen (pCons (pVar 12) pNil)) pNil)) (pgName 14) P_law_b2)
    (pFrz 13 (pFrz 15 (pRet (pOp pEq (pCal ps_law_shown (pCons (pVar 11) pNil)) (pTup (pCons (pVar 13) (pCons (pVar 15) pNil)))))))))))))))))))
theorem S_law {K : PySem.W.Frag} {c : CEnv} : SimS ⟨K, c, W0, fun _ _ => False⟩ (U_law K c) (P_law) := by
  unfold U_law P_law T_law_b2 T_law_b1 P_law_b2 P_law_b1
  exact (sim_seq (sim_asg (sim_op sim_add (sim_int _) (sim_cal b_law_next (sim_cons (sim_var 1) (sim_cons (sim_int _) sim_nil)))) (sim_gName 2))
    (sim_seq (sim_asg (sim_cal b_law_rows_of (sim_cons (sim_var 1) (sim_cons (sim_var 2) (sim_cons (sim_op sim_ix (sim_lst (sim_cons (sim_int _) (sim_cons (sim_int _) (sim_cons (sim_int _) sim_nil)))) (sim_cal b_law_next (sim_cons (sim_var 1) (sim_cons (sim_int _) sim_nil)))) sim_nil)))) (sim_gName 3))
    (sim_seq (sim_asg (sim_op sim_add (sim_int _) (sim_cal b_law_next (sim_cons (sim_var 1) (sim_cons (sim_int _) sim_nil)))) (sim_gName 4))
    (sim_seq (sim_asg (sim_cal b_law_next (sim_cons (sim_var 1) (sim_cons (sim_int _) sim_nil))) (sim_gName 5))
    (sim_seq (sim_asg (sim_cal b_law_next (sim_cons (sim_var 1) (sim_cons (sim_int _) sim_nil))) (sim_gName 6))
    (sim_seq (sim_asg (sim_op sim_add (sim_int _) (sim_cal b_law_next (sim_cons (sim_var 1) (sim_cons (sim_int _) sim_nil)))) (sim_gName 7))
    (sim_seq (sim_asg (sim_lc (sim_iSq (sim_var 3)) (sim_gTup (sim_gCons (sim_gName 9) (sim_gCons (sim_gName 10) sim_gNil))) (by decide) sim_yes (sim_mkK b_Record_init (sim_cons (sim_var 9) (sim_cons (sim_cb sim_list (sim_cons (sim_var 10) sim_nil)) sim_nil)) sim_nil)) (sim_gName 8))
    (sim_seq (sim_asg (sim_mt b_Lists_layout (sim_mkK b_Lists_init (sim_cons (sim_var 4) sim_nil) (sim_cons (sim_var 5) (sim_cons (sim_var 6) (sim_cons (sim_var 7) sim_nil)))) (sim_cons (sim_mkK b_Schema_init (sim_cons (sim_var 2) sim_nil) sim_nil) (sim_cons (sim_cb sim_list (sim_cons (sim_var 8) sim_nil)) sim_nil))) (sim_gName 11))
    (sim_seq (sim_asg (sim_cal b_train (sim_cons (sim_lc (sim_iSq (sim_var 3)) (sim_gTup (sim_gCons (sim_gName 9) (sim_gCons (sim_gName 10) sim_gNil))) (by decide) sim_yes (sim_cb sim_tuple (sim_cons (sim_var 10) sim_nil))) (sim_cons (sim_var 4) (sim_cons (sim_var 5) sim_nil)))) (sim_gName 12))
    (sim_seq (sim_asgO (simF_lc (sim_iRng1 (sim_cons (sim_cb sim_len (sim_cons (sim_var 12) sim_nil)) sim_nil)) (sim_gName 14) (by decide) sim_yes (sim_tup (sim_cons sim_non (sim_cons (sim_lst (sim_cons (sim_tup (sim_cons (sim_int _) (sim_cons (sim_cb sim_list (sim_cons (sim_op sim_ix (sim_var 12) (sim_var 14)) sim_nil)) sim_nil))) sim_nil)) (sim_cons (sim_cal b_law_cells (sim_cons (sim_var 12) (sim_cons (sim_var 14) (sim_cons (sim_var 6) sim_nil)))) sim_nil))))))
    (sim_seq (sim_asgO (simF_lc (sim_iSq (sim_var 3)) (sim_gName 16) (by decide) sim_yes (sim_int _)))
    (sim_seq (sim_for (sim_iRng1 (sim_cons (sim_cb sim_len (sim_cons (sim_var 12) sim_nil)) sim_nil)) (sim_gName 14) (sim_seq (sim_asg (sim_int _) (sim_gName 17))
    (sim_for (sim_iRng1 (sim_cons (sim_cb sim_len (sim_cons (sim_var 3) sim_nil)) sim_nil)) (sim_gName 18) (sim_ifS (sim_test (sim_op sim_eq (sim_cal b_law_nearest (sim_cons (sim_var 12) (sim_cons (sim_op sim_ix (sim_op sim_ix (sim_var 3) (sim_var 18)) (sim_int _)) sim_nil))) (sim_var 14))) (sim_cut (sim_ifS (sim_test (sim_op sim_eq (sim_op sim_mod (sim_cb sim_intB (sim_cons (sim_var 17) sim_nil)) (sim_var 7)) (sim_int _))) (sim_app (sim_tup (sim_cons (sim_var 14) (sim_cons (sim_lst sim_nil) (sim_cons (sim_lst sim_nil) sim_nil))))) sim_next)
    (sim_seq (sim_setI (sim_var 18) (sim_op sim_sub (sim_bor (sim_cb sim_len (sim_cons (sim_var 13) sim_nil))) (sim_int _)))
    (sim_asg (sim_op sim_add (sim_var 17) (sim_int _)) (sim_gName 17)))) sim_next))))
    (sim_frz (sim_frz (sim_ret (sim_op sim_eq (sim_cal b_law_shown (sim_cons (sim_var 11) sim_nil)) (sim_tup (sim_cons (sim_var 13) (sim_cons (sim_var 15) sim_nil)))))))))))))))))))

theorem q_law : P_law { nx := fun _ => False, rt := fun d => d = .bl true } (none :: some (.d .st) :: List.replicate 17 none) := by
  unfold P_law P_law_b2 P_law_b1
  walk_at "pz"
  refine next_c (by decide) (by decide) fun n0 na nb => ?_
  obtain ⟨n, hn⟩ : ∃ n : Nat, 1 + n0 = (n : Int) := ⟨(1 + n0).toNat, by omega⟩
  walk_at "pz"
  rw [hn]
  refine next_c (by decide) (by decide) fun t t0 t1 => ?_
  refine pickA t0 t1 fun x hx => ?_
  have : ∃ sp : Int, x = .int sp ∧ 1 ≤ sp ∧ sp ≤ 100 := by
    simp only [List.mem_cons, List.not_mem_nil, or_false] at hx
    rcases hx with rfl | rfl | rfl <;> exact ⟨_, rfl, by decide, by decide⟩
  obtain ⟨sp, rfl, s1, s2⟩ := this
  walk_at "pz"
  refine ⟨n, sp, rfl, by omega, s1, s2, fun rs hrs hvs => ?_⟩
  obtain ⟨vs, hvs2⟩ : ∃ vs, vs = rs.map (·.2) := ⟨_, rfl⟩
  have vl : vs.length = rs.length := by rw [hvs2, List.length_map]
  rw [← hvs2] at hvs
  walk_at "pz"
  refine next_c (by decide) (by decide) fun m m0 m1 => ?_
  walk_at "pz"
  refine next_c (by decide) (by decide) fun r r0 r1 => ?_
  walk_at "pz"
  refine next_c (by decide) (by decide) fun ce ce0 ce1 => ?_
  walk_at "pz"
  refine next_c (by decide) (by decide) fun z z0 z1 => ?_
  walk_at "pz"
  generalize hnum : 1 + m = num
  generalize hsz : 1 + z = sz
  refine p_compM rowR recR (by omega) (fun x R hx k => ?_) ?_
  · unfold rowR
    walk_at "pz"
    exact ⟨rfl, rfl, _, _, _, _, iD x.2, [], [], rfl, .inl rfl, .inr rfl, .inr rfl, by decide, by decide, k⟩
  walk_at "pz"
  refine ⟨rfl, rfl, num, r, ce, sz, rfl, by omega, by omega, by omega, by omega, ?_⟩
  walk_at "pz"
  refine ⟨rfl, rfl, SchF.mk (n : Int) "small" "square" [], _, rfl, .inr rfl, sc1_ok (by omega), ?_⟩
  walk_at "pz"
  refine ⟨n, rs, vs, num, r, ce, sz, _, rfl, hvs2, hvs, by omega, by omega, by omega, by omega, by omega, by omega, by omega, by omega, by omega, ?_⟩
  have hc : VsN n (trainZ n vs num r) := trainZ_ok hvs
  have cl : (trainZ n vs num r).length ≤ 8 := by rw [trainZ_len]; omega
  walk_at "pz"
  refine p_compM rowR (fun x => veD x.2) (by omega) (fun x R hx k => ?_) ?_
  · unfold rowR
    walk_at "pz"
    exact k
  rw [show rs.map (fun x => veD x.2) = vs.map veD by rw [hvs2, List.map_map]; rfl]
  walk_at "pz"
  refine ⟨n, vs, num, r, rfl, hvs, by omega, by omega, by omega, by omega, by omega, by omega, ?_⟩
  generalize trainZ n vs num r = c at hc cl ⊢
  unfold cD
  generalize hAD : layD (outZ c vs sz (S0 c ce) c.length).1 (outZ c vs sz (S0 c ce) c.length).2 = AD
  walk_at "pz"
  rw [List.length_map]
  refine p_rng1 (by omega) ?_
  rw [rngD_0, Int.toNat_natCast]
  refine p_compM (fun i : Nat => Da.int (0 + (i : Int))) (fun k => skShown (skC (neighZ c k ce) (c.getD k []))) (by rw [List.length_range]; omega) (fun k R hk kk => ?_) ?_
  · have hk := List.mem_range.mp hk
    rw [show (0 : Int) + (k : Int) = ((k : Nat) : Int) by omega]
    walk_at "pz"
    refine p_ixL (atI_s (getD_c hk)) ?_
    unfold veD
    walk_at "pz"
    refine ⟨n, c, k, ce, rfl, hc, by omega, hk, by omega, by omega, ?_⟩
    walk_at "pz"
    rw [show Da.tup [.non, .lst [.tup [.int 0, .lst (iD (c.getD k []))]], .lst ((neighZ c k ce).map fun rv => .tup [.lst (iD (c.getD k [])), .lst (iD rv)])] = skShown (skC (neighZ c k ce) (c.getD k [])) by
      show _ = Da.tup [.non, .lst [.tup [.int 0, .lst (iD (c.getD k []))]], .lst (((neighZ c k ce).map fun rv => (c.getD k [], rv)).map fun x => .tup [.lst (iD x.1), .lst (iD x.2)])]
      rw [List.map_map]; rfl]
    exact kk
  rw [show (List.range c.length).map (fun k => skShown (skC (neighZ c k ce) (c.getD k []))) = (S0 c ce).map skShown by unfold S0; rw [List.map_map]; rfl]
  walk_at "pz"
  refine p_map (by rw [List.length_map]; omega) (fun _ => .int 0) (fun i x R hx k => ?_) ?_
  · walk_at "pz"
    exact k
  walk_at "pz"
  rw [List.length_map]
  refine p_rng1 (by omega) ?_
  refine p_loopR (fun k ρ => ∃ (x0 x9 x10 x14 x16 x17 x18 : Option Pv), ρ = [x0, some (.d .st), some (.d (.int (n : Nat))), some (.d (.lst (rs.map rowR))), some (.d (.int num)), some (.d (.int r)), some (.d (.int ce)), some (.d (.int sz)), some (.d (.lst (rs.map recR))), x9, x10, some (.d AD), some (.d (.lst (c.map veD))), some (.own ((outZ c vs sz (S0 c ce) k).1.map skShown)), x14, some (.own ((outZ c vs sz (S0 c ce) k).2.map Da.int)), x16, x17, x18]) ⟨_, _, _, _, _, _, _, by rw [rep_map _ (by rw [List.length_map]), ← vl]; show _ = _; unfold outZ; rw [List.map_replicate]; rfl⟩ ?_ ?_
  · rintro k _ hk ⟨x0, x9, x10, x14, x16, x17, x18, rfl⟩
    have hk : k < c.length := by simpa using hk
    rw [show (0 : Int) + (k : Int) = ((k : Nat) : Int) by omega]
    have o1 := (out_len (c := c) (vs := vs) (sz := sz) (S := S0 c ce) k)
    have on : outZ c vs sz (S0 c ce) (k + 1) = (((ownN c vs k vs.length).foldl (stp3 k sz) ((outZ c vs sz (S0 c ce) k).1, (outZ c vs sz (S0 c ce) k).2, 0)).1, ((ownN c vs k vs.length).foldl (stp3 k sz) ((outZ c vs sz (S0 c ce) k).1, (outZ c vs sz (S0 c ce) k).2, 0)).2.1) := rfl
    rw [S0_len] at o1
    have kb : k * vs.length ≤ 64 := Nat.mul_le_mul (show k ≤ 8 by omega) (show vs.length ≤ 8 by omega)
    rw [on]
    generalize (outZ c vs sz (S0 c ce) k).1 = S1 at o1 ⊢
    generalize (outZ c vs sz (S0 c ce) k).2 = L1 at o1 ⊢
    walk_at "pz"
    rw [List.length_map]
    refine p_rng1 (by omega) ?_
    refine p_loopR (fun j ρ => ∃ (x0 x9 x10 x16 x18 : Option Pv), ρ = [x0, some (.d .st), some (.d (.int (n : Nat))), some (.d (.lst (rs.map rowR))), some (.d (.int num)), some (.d (.int r)), some (.d (.int ce)), some (.d (.int sz)), some (.d (.lst (rs.map recR))), x9, x10, some (.d AD), some (.d (.lst (c.map veD))), some (.own (((ownN c vs k j).foldl (stp3 k sz) (S1, L1, 0)).1.map skShown)), some (.d (.int (k : Nat))), some (.own (((ownN c vs k j).foldl (stp3 k sz) (S1, L1, 0)).2.1.map Da.int)), x16, some (.d (.int (((ownN c vs k j).foldl (stp3 k sz) (S1, L1, 0)).2.2 : Nat))), x18]) ⟨_, _, _, _, _, rfl⟩ ?_ ?_
    · rintro j _ hj ⟨x0, x9, x10, x16, x18, rfl⟩
      have hj : j < rs.length := by simpa using hj
      have hj2 : j < vs.length := by omega
      have er : (rs.map rowR)[j]? = some (rowR rs[j]) := by rw [List.getElem?_map, List.getElem?_eq_getElem hj]; rfl
      have ev : rs[j].2 = vs.getD j [] := by rw [hvs2, List.getD_eq_getElem?_getD, List.getElem?_map, List.getElem?_eq_getElem hj]; rfl
      generalize rs[j] = y at er ev
      have vb := hvs.at hj2
      obtain ⟨f1, f2, f3⟩ := stp_fold (k := k) (sz := sz) (ownN c vs k j) (S1, L1, 0)
      have wl := own_len c vs k j
      rw [show (0 : Int) + (j : Int) = ((j : Nat) : Int) by omega]
      walk_at "pz"
      refine p_ixL (atI_s er) ?_
      unfold rowR
      walk_at "pz"
      refine ⟨n, c, _, y.2, rfl, .inl rfl, hc, fun u hu => by rw [List.mem_singleton.mp hu, ev]; exact vb, by omega, by omega, ?_⟩
      walk_at "pz"
      rw [ev]
      by_cases hq : nearZ c (vs.getD j []) = k
      rotate_left
      · rw [decide_eq_false (show ¬ ((nearZ c (vs.getD j []) : Nat) : Int) = ((k : Nat) : Int) by omega)]
        walk_at "px"
        rw [own_no hq]
        exact ⟨_, _, _, _, _, rfl⟩
      rw [decide_eq_true (show ((nearZ c (vs.getD j []) : Nat) : Int) = ((k : Nat) : Int) by omega)]
      have nx : (ownN c vs k (j + 1)).foldl (stp3 k sz) (S1, L1, 0) = stp3 k sz ((ownN c vs k j).foldl (stp3 k sz) (S1, L1, 0)) j := by rw [own_yes hq, List.foldl_append]; rfl
      rw [nx]
      generalize (ownN c vs k j).foldl (stp3 k sz) (S1, L1, 0) = T at f1 f2 f3 ⊢
      have f2 : T.2.1.length = L1.length := f2
      have f3 : T.1.length ≤ S1.length + (ownN c vs k j).length := f3
      obtain ⟨SS, hSS⟩ : ∃ SS : List SkF, SS = (if ((T.2.2 : Nat) : Int) % sz = 0 then T.1 ++ [⟨some k, [], []⟩] else T.1) := ⟨_, rfl⟩
      have st : stp3 k sz T j = (SS, T.2.1.set j ((SS.length : Int) - 1), T.2.2 + 1) := by unfold stp3; rw [hSS]
      walk_at "px"
      refine p_cut (fun ρ => ∃ (x0 x9 x10 x16 : Option Pv), ρ = [x0, some (.d .st), some (.d (.int (n : Nat))), some (.d (.lst (rs.map rowR))), some (.d (.int num)), some (.d (.int r)), some (.d (.int ce)), some (.d (.int sz)), some (.d (.lst (rs.map recR))), x9, x10, some (.d AD), some (.d (.lst (c.map veD))), some (.own (SS.map skShown)), some (.d (.int (k : Nat))), some (.own (T.2.1.map Da.int)), x16, some (.d (.int (T.2.2 : Nat))), some (.d (.int (j : Nat)))]) ?_ ?_
      · walk_at "pz"
        refine z_itD (fun h => ?_) (fun h => ?_)
        · refine p_app rfl (by rw [List.length_map]; omega) ?_
          walk_at "pz"
          rw [if_pos h] at hSS
          rw [hSS, List.map_append]
          exact ⟨_, _, _, _, rfl⟩
        · rw [if_neg h] at hSS
          rw [hSS]
          exact ⟨_, _, _, _, rfl⟩
      rintro _ ⟨x0, x9, x10, x16, rfl⟩
      walk_at "pz"
      rw [List.length_map]
      refine ⟨_, j, rfl, ixN_n (by rw [f2, o1.1]; exact hj2), ?_⟩
      rw [st, ← List.map_set, List.length_map]
      walk_at "pz"
      exact ⟨_, _, _, _, _, rfl⟩
    rintro _ ⟨x0, x9, x10, x16, x18, rfl⟩
    rw [show ((rs.length : Nat) : Int).toNat = vs.length by rw [vl]; simp]
    exact ⟨_, _, _, _, _, _, _, rfl⟩
  rintro _ ⟨x0, x9, x10, x14, x16, x17, x18, rfl⟩
  rw [show ((c.length : Nat) : Int).toNat = c.length by simp]
  have ol := (out_len (c := c) (vs := vs) (sz := sz) (S := S0 c ce) c.length).2
  rw [S0_len] at ol
  have kb : c.length * vs.length ≤ 64 := Nat.mul_le_mul cl (show vs.length ≤ 8 by omega)
  subst hAD
  walk_at "pz"
  refine ⟨_, _, rfl, by omega, out_sz (S0_sz (by omega)) _, ?_⟩
  walk_at "pz"
  exact p_eqPl (n := 6) (by decide) (shownD_pl _ _) rfl
theorem w_law {K : PySem.W.Frag} {c : CEnv} : Wd (T_law K c) N_law 1 (sp_lawT K c) := by
  unfold T_law
  exact wd_law (c := c) S_law rfl q_law
/-! ### the text by places, and its defs, each once -/
def topS (i : Nat) : Stmt := PySem.Challenge.pw_surenear_k30_lists.main.body.getD i (.Pass ⟨0, 0, 0, 0⟩)
section
variable {P : Program} {w : World} {K : PySem.W.Frag} {mg : Str → Option Value} {base : Heap} {c : CEnv}
abbrev s_law_row : Stmt := (topS 35)
theorem sc_law_row : FnScope N_law_row ["_law_script", "_law_k"] (defScope s_law_row) := ⟨rfl, rfl, rfl, by decide +kernel, rfl, by decide +kernel, by decide +kernel⟩
theorem ok_law_row (m_len : mg "len" = none) (m_int : mg "int" = none) {f : Addr} {fd : FuncData} (F : Fun K "_law_row" "_law_row" s_law_row f fd) : FnOk P w K mg base CX0 1 f fd ["_law_script", "_law_k"] (sp_law_row K) := by
  have sc := sc_law_row
  refine F.ok sc_law_row (fun vs H Q E h => ((w_law_row) vs H Q E h).1) (fun cdv A outer s H vs Q E hr h => ⟨T_law_row K, ?_, ((w_law_row) vs H Q E h).2⟩)
  exact (pss_cons (ps_set (i := 2) sc.nd rfl (by first | exact Or.inl rfl | exact Or.inr rfl) pe_int)
      (pss_cut (ps_if (pt_cmpR (op_uLt hr.units) (pv 1) (pe_callB call_uLen (by rfl) m_len (by decide +kernel) (pa_cons (pv 0) pa_nil)) (nomark _)) (pss_one (ps_set (i := 2) sc.nd rfl (by first | exact Or.inl rfl | exact Or.inr rfl) (pe_ix ix_uIx (pv 0) (pv 1) (fun _ _ => rfl)))) pss_nil)
      (pss_cut (ps_if (pt_cmpR (op_uLt hr.units) (pv 2) pe_int (nomark _)) (pss_one (ps_set (i := 2) sc.nd rfl (by first | exact Or.inl rfl | exact Or.inr rfl) (pe_op op_uSub (pe_op op_uMul (pe_un un_uNeg pe_int) (pv 2)) pe_int))) pss_nil)
      (pss_cut (ps_if (pt_cmpR (op_uLt hr.units) (pv 2) (pe_op op_uPow pe_int pe_int) (nomark _)) (pss_cons (ps_set (i := 3) sc.nd rfl (by first | exact Or.inl rfl | exact Or.inr rfl) (pe_op op_uMod (pe_callTy call_uInt (by rfl) m_int (by decide +kernel) (pa_cons (pe_op op_uAdd (pe_op op_uAdd (pe_op op_uMul (pv 2) pe_int) (pe_op op_uMul (pv 1) pe_int)) pe_int) pa_nil)) pe_int))
      (pss_cons (ps_set (i := 4) sc.nd rfl (by first | exact Or.inl rfl | exact Or.inr rfl) (pe_op op_uMod (pe_callTy call_uInt (by rfl) m_int (by decide +kernel) (pa_cons (pe_op op_uAdd (pe_op op_uAdd (pe_op op_uAdd (pe_op op_uMul (pv 3) pe_int) (pe_op op_uMul (pv 2) pe_int)) (pv 1)) pe_int) pa_nil)) pe_int))
      (pss_cons (ps_set (i := 5) sc.nd rfl (by first | exact Or.inl rfl | exact Or.inr rfl) (pe_op op_uMod (pe_callTy call_uInt (by rfl) m_int (by decide +kernel) (pa_cons (pe_op op_uAdd (pe_op op_uAdd (pe_op op_uMul (pv 4) pe_int) (pe_op op_uMul (pv 3) (pv 4))) pe_int) pa_nil)) pe_int))
      (pss_one (ps_set (i := 2) sc.nd rfl (by first | exact Or.inl rfl | exact Or.inr rfl) (pe_op op_uAdd (pe_op op_uAdd (pv 3) (pe_op op_uMul (pv 4) pe_int)) (pe_op op_uMul (pv 5) (pe_op op_uPow pe_int pe_int)))))))) pss_nil)
      (pss_one (ps_ret (pv 2)))))))
abbrev s_law_next : Stmt := (topS 36)
theorem sc_law_next : FnScope N_law_next ["_law_state", "_law_many"] (defScope s_law_next) := ⟨rfl, rfl, rfl, by decide +kernel, rfl, by decide +kernel, by decide +kernel⟩
theorem ok_law_next (D_law_row : Dfn P w K mg base 1 "_law_row" ["_law_script", "_law_k"] (sp_law_row K)) (m_int : mg "int" = none) {f : Addr} {fd : FuncData} (F : Fun K "_law_next" "_law_next" s_law_next f fd) : FnOk P w K mg base CX0 2 f fd ["_law_state", "_law_many"] (sp_law_next K) := by
  have sc := sc_law_next
  refine F.ok sc_law_next (fun vs H Q E h => ((w_law_next) vs H Q E h).1) (fun cdv A outer s H vs Q E hr h => ⟨T_law_next K, ?_, ((w_law_next) vs H Q E h).2⟩)
  exact (pss_cut (ps_if (pt_cmpR (op_uLt hr.units) (pe_ix ix_uIx (pv 0) pe_int (fun _ _ => rfl)) (pv 1) (nomark _)) (pss_cons (ps_asg (z_call D_law_row (hr.mono (by decide)) (by rfl) (pa_cons (pe_ix ix_uIx (pv 0) pe_int (fun _ _ => rfl)) (pa_cons (pe_ix ix_uIx (pv 0) pe_int (fun _ _ => rfl)) pa_nil))) (pg_sub (pv 0) pe_int set_list))
      (pss_one (ps_asg (pe_op op_uAdd (pe_ix ix_uIx (pv 0) pe_int (fun _ _ => rfl)) pe_int) (pg_sub (pv 0) pe_int set_list)))) pss_nil)
      (pss_cons (ps_set (i := 2) sc.nd rfl (by first | exact Or.inl rfl | exact Or.inr rfl) (pe_op op_uMod (pe_callTy call_uInt (by rfl) m_int (by decide +kernel) (pa_cons (pe_ix ix_uIx (pv 0) pe_int (fun _ _ => rfl)) pa_nil)) (pv 1)))
      (pss_cons (ps_asg (pe_op op_uDiv (pe_ix ix_uIx (pv 0) pe_int (fun _ _ => rfl)) (pv 1)) (pg_sub (pv 0) pe_int set_list))
      (pss_one (ps_ret (pv 2))))))
abbrev s_law_rows_of : Stmt := (topS 37)
theorem sc_law_rows_of : FnScope N_law_rows_of ["_law_state", "_law_size", "_law_spread"] (defScope s_law_rows_of) := ⟨rfl, rfl, rfl, by decide +kernel, rfl, by decide +kernel, by decide +kernel⟩
theorem ok_law_rows_of (D_law_next : Dfn P w K mg base 2 "_law_next" ["_law_state", "_law_many"] (sp_law_next K)) (m_range : mg "range" = none) (m_str : mg "str" = none) {f : Addr} {fd : FuncData} (F : Fun K "_law_rows_of" "_law_rows_of" s_law_rows_of f fd) : FnOk P w K mg base CX0 3 f fd ["_law_state", "_law_size", "_law_spread"] (sp_law_rows_of K c) := by
  have sc := sc_law_rows_of
  refine F.ok sc_law_rows_of (fun vs H Q E h => ((w_law_rows_of (c := c)) vs H Q E h).1) (fun cdv A outer s H vs Q E hr h => ⟨T_law_rows_of K, ?_, ((w_law_rows_of (c := c)) vs H Q E h).2⟩)
  exact (pss_cons (ps_set (i := 3) sc.nd rfl (by first | exact Or.inl rfl | exact Or.inr rfl) (pe_lst pa_nil))
      (pss_cons (ps_for PassesOwn.never rfl (pi_range1 (by rfl) m_range (pa_cons (z_call D_law_next (hr.mono (by decide)) (by rfl) (pa_cons (pv 0) (pa_cons pe_int pa_nil))) pa_nil)) (pg_name (i := 4) sc.nd rfl (by first | exact Or.inl rfl | exact Or.inr rfl)) (pss_cons (by first | exact (ps_setLc (i := 5) (own := [("_law_j", 6)]) (g := (gName 6)) (tt := tYes) rfl sc.nd rfl rfl (sw_true rfl rfl rfl (by decide +kernel)) (pi_range1 (by rfl) m_range (pa_cons (pv 1) pa_nil)) (blkOk_by (N := N_law_rows_of) (sc := defScope s_law_rows_of) (by decide +kernel)) (fun _ _ _ _ _ => (pg_name (i := 6) sc.nd rfl (by first | exact Or.inl rfl | exact Or.inr rfl))) (fun _ _ _ _ _ => pts_nil) (fun _ _ _ _ _ => (z_call D_law_next (hr.mono (by decide)) (by rfl) (pa_cons (pv 0) (pa_cons (pv 2) pa_nil))))) | exact (ps_set (i := 5) sc.nd rfl (Or.inr rfl) (pe_lc (own := [("_law_j", 6)]) (g := (gName 6)) (tt := tYes) rfl sc.nd (pi_range1 (by rfl) m_range (pa_cons (pv 1) pa_nil)) (blkOk_by (N := N_law_rows_of) (sc := defScope s_law_rows_of) (by decide +kernel)) (fun _ _ _ _ _ => (pg_name (i := 6) sc.nd rfl (by first | exact Or.inl rfl | exact Or.inr rfl))) (fun _ _ _ _ _ => pts_nil) (fun _ _ _ _ _ => (z_call D_law_next (hr.mono (by decide)) (by rfl) (pa_cons (pv 0) (pa_cons (pv 2) pa_nil)))))))
      (pss_one (ps_expr (pe_bm PySem.F.plainAttrs_list PySem.F.slot_list_append PySem.F.type_list_append mt_append (pv 3) (pa_cons (pe_tup (pa_cons (pe_op op_uAdd pe_str (pe_callTy call_uStr (by rfl) m_str (by decide +kernel) (pa_cons (pv 4) pa_nil))) (pa_cons (pv 5) pa_nil))) pa_nil))))))
      (pss_one (ps_ret (pv 3)))))
abbrev s_Record_init : Stmt := (inClass (topS 22) 0)
theorem sc_Record_init : FnScope N_Record_init ["self", "name", "vector", "fields", "words"] (defScope s_Record_init) := ⟨rfl, rfl, rfl, by decide +kernel, rfl, by decide +kernel, by decide +kernel⟩
theorem ok_Record_init (m_tuple : mg "tuple" = none) {f : Addr} {fd : FuncData} (F : Fun K "__init__" "Record.__init__" s_Record_init f fd) : FnOk P w K mg base CX0 1 f fd ["self", "name", "vector", "fields", "words"] (sp_Record_init K c) := by
  have sc := sc_Record_init
  refine F.ok sc_Record_init (fun vs H Q E h => ((w_Record_init (c := c)) vs H Q E h).1) (fun cdv A outer s H vs Q E hr h => ⟨T_Record_init K, ?_, ((w_Record_init (c := c)) vs H Q E h).2⟩)
  exact (pss_cons (ps_fld (pv 0) (pv 1) rfl)
      (pss_cons (ps_fld (pv 0) (pe_callTy call_uTuple (by rfl) m_tuple (by decide +kernel) (pa_cons (pv 2) pa_nil)) rfl)
      (pss_cons (ps_fld (pv 0) (pe_callTy call_uTuple (by rfl) m_tuple (by decide +kernel) (pa_cons (pe_lc (own := [("field", 5), ("worth", 6)]) (g := (gTup K 2 (gCons (gName 5) (gCons (gName 6) gNil)))) (tt := tYes) rfl sc.nd (pi_sq (pv 3)) (blkOk_by (N := N_Record_init) (sc := defScope s_Record_init) (by decide +kernel)) (fun _ _ _ _ _ => (pg_tup rfl (pgs_cons (pg_name (i := 5) sc.nd rfl (by first | exact Or.inl rfl | exact Or.inr rfl)) (pgs_cons (pg_name (i := 6) sc.nd rfl (by first | exact Or.inl rfl | exact Or.inr rfl)) pgs_nil)))) (fun _ _ _ _ _ => pts_nil) (fun _ _ _ _ _ => (pe_tup (pa_cons (pv 5) (pa_cons (pv 6) pa_nil))))) pa_nil)) rfl)
      (pss_one (ps_fld (pv 0) (pe_callTy call_uTuple (by rfl) m_tuple (by decide +kernel) (pa_cons (pe_lc (own := [("word", 7), ("count", 8)]) (g := (gTup K 2 (gCons (gName 7) (gCons (gName 8) gNil)))) (tt := tYes) rfl sc.nd (pi_sq (pv 4)) (blkOk_by (N := N_Record_init) (sc := defScope s_Record_init) (by decide +kernel)) (fun _ _ _ _ _ => (pg_tup rfl (pgs_cons (pg_name (i := 7) sc.nd rfl (by first | exact Or.inl rfl | exact Or.inr rfl)) (pgs_cons (pg_name (i := 8) sc.nd rfl (by first | exact Or.inl rfl | exact Or.inr rfl)) pgs_nil)))) (fun _ _ _ _ _ => pts_nil) (fun _ _ _ _ _ => (pe_tup (pa_cons (pv 7) (pa_cons (pv 8) pa_nil))))) pa_nil)) rfl)))))
abbrev s_check_rule : Stmt := (topS 16)
theorem sc_check_rule : FnScope N_check_rule ["positive", "other"] (defScope s_check_rule) := ⟨rfl, rfl, rfl, by decide +kernel, rfl, by decide +kernel, by decide +kernel⟩
theorem ok_check_rule (E_InvalidRule : ExcF K mg c "InvalidRule") {f : Addr} {fd : FuncData} (F : Fun K "check_rule" "check_rule" s_check_rule f fd) : FnOk P w K mg base (L2.CX P w) 1 f fd ["positive", "other"] (sp_check_rule K c) := by
  have sc := sc_check_rule
  refine F.okX sc_check_rule (fun vs H Q E h => ((w_check_rule (c := c)) vs H Q E h).1) (fun cdv A outer s H vs Q E hr h => ⟨T_check_rule K c (fun cls d _ H => E cls d H), ?_, ((w_check_rule (c := c)) vs H Q E h).2⟩)
  exact (pss_cons (ps_for (passes_of rfl) rfl (pi_sq (pv 0)) (pg_name (i := 2) sc.nd rfl (by first | exact Or.inl rfl | exact Or.inr rfl)) (pss_one (ps_if (pt_cmpR (op_uLt hr.units) (pv 2) pe_int (nomark _)) (pss_one (z_raise rfl E_InvalidRule (takes_of rfl rfl rfl rfl) (by rfl))) pss_nil)))
      (pss_one (ps_for (passes_of rfl) rfl (pi_sq (pv 1)) (pg_name (i := 2) sc.nd rfl (by first | exact Or.inl rfl | exact Or.inr rfl)) (pss_one (ps_if (pt_cmpR (op_uLt hr.units) (pv 2) pe_int (nomark _)) (pss_one (z_raise rfl E_InvalidRule (takes_of rfl rfl rfl rfl) (by rfl))) pss_nil)))))
abbrev s_Lists_init : Stmt := (inClass (topS 18) 0)
theorem sc_Lists_init : FnScope N_Lists_init ["self", "centres", "rounds", "cells", "size"] (defScope s_Lists_init) := ⟨rfl, rfl, rfl, by decide +kernel, rfl, by decide +kernel, by decide +kernel⟩
theorem ok_Lists_init (D_check_rule : DfnX P w K mg base 1 "check_rule" ["positive", "other"] (sp_check_rule K c)) {f : Addr} {fd : FuncData} (F : Fun K "__init__" "Lists.__init__" s_Lists_init f fd) : FnOk P w K mg base (L2.CX P w) 2 f fd ["self", "centres", "rounds", "cells", "size"] (sp_Lists_init K c) := by
  have sc := sc_Lists_init
  refine F.okX sc_Lists_init (fun vs H Q E h => ((w_Lists_init (c := c)) vs H Q E h).1) (fun cdv A outer s H vs Q E hr h => ⟨T_Lists_init K c (fun cls d _ H => E cls d H), ?_, ((w_Lists_init (c := c)) vs H Q E h).2⟩)
  exact (pss_cons (ps_expr (z_callX D_check_rule (passW (takes_of rfl rfl rfl rfl)) (hr.mono (by decide)) (by rfl) (pa_cons (pe_lst (pa_cons (pv 1) (pa_cons (pv 4) pa_nil))) (pa_cons (pe_lst (pa_cons (pv 2) (pa_cons (pv 3) pa_nil))) pa_nil))))
      (pss_cons (ps_fld (pv 0) (pv 1) rfl)
      (pss_cons (ps_fld (pv 0) (pv 2) rfl)
      (pss_cons (ps_fld (pv 0) (pv 3) rfl)
      (pss_one (ps_fld (pv 0) (pv 4) rfl))))))
abbrev s_distance : Stmt := (topS 2)
theorem sc_distance : FnScope N_distance ["a", "b"] (defScope s_distance) := ⟨rfl, rfl, rfl, by decide +kernel, rfl, by decide +kernel, by decide +kernel⟩
theorem ok_distance (m_zip : mg "zip" = none) {f : Addr} {fd : FuncData} (F : Fun K "distance" "distance" s_distance f fd) : FnOk P w K mg base CX0 1 f fd ["a", "b"] (sp_distance K c) := by
  have sc := sc_distance
  refine F.ok sc_distance (fun vs H Q E h => ((w_distance (c := c)) vs H Q E h).1) (fun cdv A outer s H vs Q E hr h => ⟨T_distance K, ?_, ((w_distance (c := c)) vs H Q E h).2⟩)
  exact (pss_cons (ps_set (i := 2) sc.nd rfl (by first | exact Or.inl rfl | exact Or.inr rfl) pe_int)
      (pss_cons (ps_for PassesOwn.never rfl (pi_zip2 (by rfl) m_zip (pa_cons (pv 0) (pa_cons (pv 1) pa_nil))) (pg_tup rfl (pgs_cons (pg_name (i := 3) sc.nd rfl (by first | exact Or.inl rfl | exact Or.inr rfl)) (pgs_cons (pg_name (i := 4) sc.nd rfl (by first | exact Or.inl rfl | exact Or.inr rfl)) pgs_nil))) (pss_one (ps_set (i := 2) sc.nd rfl (by first | exact Or.inl rfl | exact Or.inr rfl) (pe_op op_uAdd (pv 2) (pe_op op_uMul (pe_op op_uSub (pv 3) (pv 4)) (pe_op op_uSub (pv 3) (pv 4)))))))
      (pss_one (ps_ret (pv 2)))))
abbrev s_nearest : Stmt := (topS 7)
theorem sc_nearest : FnScope N_nearest ["centres", "vector"] (defScope s_nearest) := ⟨rfl, rfl, rfl, by decide +kernel, rfl, by decide +kernel, by decide +kernel⟩
theorem ok_nearest (D_distance : Dfn P w K mg base 1 "distance" ["a", "b"] (sp_distance K c)) (m_len : mg "len" = none) (m_range : mg "range" = none) {f : Addr} {fd : FuncData} (F : Fun K "nearest" "nearest" s_nearest f fd) : FnOk P w K mg base CX0 2 f fd ["centres", "vector"] (sp_nearest K c) := by
  have sc := sc_nearest
  refine F.ok sc_nearest (fun vs H Q E h => ((w_nearest (c := c)) vs H Q E h).1) (fun cdv A outer s H vs Q E hr h => ⟨T_nearest K c, ?_, ((w_nearest (c := c)) vs H Q E h).2⟩)
  exact (pss_cons (ps_set (i := 2) sc.nd rfl (by first | exact Or.inl rfl | exact Or.inr rfl) pe_int)
      (pss_cons (ps_for PassesOwn.never rfl (pi_range2 (by rfl) m_range (pa_cons pe_int (pa_cons (pe_callB call_uLen (by rfl) m_len (by decide +kernel) (pa_cons (pv 0) pa_nil)) pa_nil))) (pg_name (i := 3) sc.nd rfl (by first | exact Or.inl rfl | exact Or.inr rfl)) (pss_one (ps_if (pt_cmpR (op_uLt hr.units) (z_call D_distance (hr.mono (by decide)) (by rfl) (pa_cons (pe_ix ix_uIx (pv 0) (pv 3) (fun _ _ => rfl)) (pa_cons (pv 1) pa_nil))) (z_call D_distance (hr.mono (by decide)) (by rfl) (pa_cons (pe_ix ix_uIx (pv 0) (pv 2) (fun _ _ => rfl)) (pa_cons (pv 1) pa_nil))) (nomark _)) (pss_one (ps_set (i := 2) sc.nd rfl (by first | exact Or.inl rfl | exact Or.inr rfl) (pv 3))) pss_nil)))
      (pss_one (ps_ret (pv 2)))))
abbrev s_mean : Stmt := (topS 8)
theorem sc_mean : FnScope N_mean ["vectors"] (defScope s_mean) := ⟨rfl, rfl, rfl, by decide +kernel, rfl, by decide +kernel, by decide +kernel⟩
theorem ok_mean (m_len : mg "len" = none) (m_range : mg "range" = none) (m_sum : mg "sum" = none) (m_tuple : mg "tuple" = none) {f : Addr} {fd : FuncData} (F : Fun K "mean" "mean" s_mean f fd) : FnOk P w K mg base CX0 1 f fd ["vectors"] (sp_mean K c) := by
  have sc := sc_mean
  refine F.ok sc_mean (fun vs H Q E h => ((w_mean (c := c)) vs H Q E h).1) (fun cdv A outer s H vs Q E hr h => ⟨T_mean K, ?_, ((w_mean (c := c)) vs H Q E h).2⟩)
  exact (pss_one (ps_ret (pe_callTy call_uTuple (by rfl) m_tuple (by decide +kernel) (pa_cons (pe_lc (own := [("k", 2)]) (g := (gName 2)) (tt := tYes) rfl sc.nd (pi_range1 (by rfl) m_range (pa_cons (pe_callB call_uLen (by rfl) m_len (by decide +kernel) (pa_cons (pe_ix ix_uIx (pv 0) pe_int (fun _ _ => rfl)) pa_nil)) pa_nil)) (blkOk_by (N := N_mean) (sc := defScope s_mean) (by decide +kernel)) (fun _ _ _ _ _ => (pg_name (i := 2) sc.nd rfl (by first | exact Or.inl rfl | exact Or.inr rfl))) (fun _ _ _ _ _ => pts_nil) (fun _ _ _ _ _ => (pe_op op_uDiv (pe_callB (cr_sum rfl) (by rfl) m_sum (by decide +kernel) (pa_cons (pe_lc (own := [("vector", 1)]) (g := (gName 1)) (tt := tYes) rfl sc.nd (pi_sq (pv 0)) (blkOk_by (by with_unfolding_all rfl)) (fun _ _ _ _ _ => (pg_name (i := 1) sc.nd rfl (by first | exact Or.inl rfl | exact Or.inr rfl))) (fun _ _ _ _ _ => pts_nil) (fun _ _ _ _ _ => (pe_ix ix_uIx (pv 1) (pv 2) (fun _ _ => rfl)))) pa_nil)) (pe_callB call_uLen (by rfl) m_len (by decide +kernel) (pa_cons (pv 0) pa_nil))))) pa_nil))))
abbrev s_move : Stmt := (topS 9)
theorem sc_move : FnScope N_move ["centres", "vectors"] (defScope s_move) := ⟨rfl, rfl, rfl, by decide +kernel, rfl, by decide +kernel, by decide +kernel⟩
theorem ok_move (D_nearest : Dfn P w K mg base 2 "nearest" ["centres", "vector"] (sp_nearest K c)) (D_mean : Dfn P w K mg base 1 "mean" ["vectors"] (sp_mean K c)) (m_enumerate : mg "enumerate" = none) (m_zip : mg "zip" = none) (m_len : mg "len" = none) {f : Addr} {fd : FuncData} (F : Fun K "move" "move" s_move f fd) : FnOk P w K mg base CX0 3 f fd ["centres", "vectors"] (sp_move K c) := by
  have sc := sc_move
  refine F.ok sc_move (fun vs H Q E h => ((w_move (c := c)) vs H Q E h).1) (fun cdv A outer s H vs Q E hr h => ⟨T_move K c, ?_, ((w_move (c := c)) vs H Q E h).2⟩)
  exact (pss_cons (by first | exact (ps_setLc (i := 2) (own := [("vector", 3)]) (g := (gName 3)) (tt := tYes) rfl sc.nd rfl rfl (sw_true rfl rfl rfl (by decide +kernel)) (pi_sq (pv 1)) (blkOk_by (N := N_move) (sc := defScope s_move) (by decide +kernel)) (fun _ _ _ _ _ => (pg_name (i := 3) sc.nd rfl (by first | exact Or.inl rfl | exact Or.inr rfl))) (fun _ _ _ _ _ => pts_nil) (fun _ _ _ _ _ => (z_call D_nearest (hr.mono (by decide)) (by rfl) (pa_cons (pv 0) (pa_cons (pv 3) pa_nil))))) | exact (ps_set (i := 2) sc.nd rfl (Or.inr rfl) (pe_lc (own := [("vector", 3)]) (g := (gName 3)) (tt := tYes) rfl sc.nd (pi_sq (pv 1)) (blkOk_by (N := N_move) (sc := defScope s_move) (by decide +kernel)) (fun _ _ _ _ _ => (pg_name (i := 3) sc.nd rfl (by first | exact Or.inl rfl | exact Or.inr rfl))) (fun _ _ _ _ _ => pts_nil) (fun _ _ _ _ _ => (z_call D_nearest (hr.mono (by decide)) (by rfl) (pa_cons (pv 0) (pa_cons (pv 3) pa_nil)))))))
      (pss_cons (ps_set (i := 4) sc.nd rfl (by first | exact Or.inl rfl | exact Or.inr rfl) (pe_lst pa_nil))
      (pss_cons (ps_for PassesOwn.never rfl (pi_enumA (by rfl) m_enumerate (pa_cons (pv 0) pa_nil)) (pg_tup rfl (pgs_cons (pg_name (i := 5) sc.nd rfl (by first | exact Or.inl rfl | exact Or.inr rfl)) (pgs_cons (pg_name (i := 6) sc.nd rfl (by first | exact Or.inl rfl | exact Or.inr rfl)) pgs_nil))) (pss_cons (by first | exact (ps_setLc (i := 7) (own := [("vector", 3), ("at", 8)]) (g := (gTup K 2 (gCons (gName 3) (gCons (gName 8) gNil)))) (tt := (tTest (tOp (uEq K) (tVar 8) (tVar 5)))) rfl sc.nd rfl rfl (sw_true rfl rfl rfl (by decide +kernel)) (pi_zip2 (by rfl) m_zip (pa_cons (pv 1) (pa_cons (pv 2) pa_nil))) (blkOk_by (N := N_move) (sc := defScope s_move) (by decide +kernel)) (fun _ _ _ _ _ => (pg_tup rfl (pgs_cons (pg_name (i := 3) sc.nd rfl (by first | exact Or.inl rfl | exact Or.inr rfl)) (pgs_cons (pg_name (i := 8) sc.nd rfl (by first | exact Or.inl rfl | exact Or.inr rfl)) pgs_nil)))) (fun _ _ _ _ _ => (pts_one (pt_cmpR (op_uEq hr.units) (pv 8) (pv 5) (nomark _)))) (fun _ _ _ _ _ => (pv 3))) | exact (ps_set (i := 7) sc.nd rfl (Or.inr rfl) (pe_lc (own := [("vector", 3), ("at", 8)]) (g := (gTup K 2 (gCons (gName 3) (gCons (gName 8) gNil)))) (tt := (tTest (tOp (uEq K) (tVar 8) (tVar 5)))) rfl sc.nd (pi_zip2 (by rfl) m_zip (pa_cons (pv 1) (pa_cons (pv 2) pa_nil))) (blkOk_by (N := N_move) (sc := defScope s_move) (by decide +kernel)) (fun _ _ _ _ _ => (pg_tup rfl (pgs_cons (pg_name (i := 3) sc.nd rfl (by first | exact Or.inl rfl | exact Or.inr rfl)) (pgs_cons (pg_name (i := 8) sc.nd rfl (by first | exact Or.inl rfl | exact Or.inr rfl)) pgs_nil)))) (fun _ _ _ _ _ => (pts_one (pt_cmpR (op_uEq hr.units) (pv 8) (pv 5) (nomark _)))) (fun _ _ _ _ _ => (pv 3)))))
      (pss_one (ps_expr (pe_bm PySem.F.plainAttrs_list PySem.F.slot_list_append PySem.F.type_list_append mt_append (pv 4) (pa_cons (pe_ifExp (pt_cmpR op_uGt (pe_callB call_uLen (by rfl) m_len (by decide +kernel) (pa_cons (pv 7) pa_nil)) pe_int (nomark _)) (z_call D_mean (hr.mono (by decide)) (by rfl) (pa_cons (pv 7) pa_nil)) (pv 6)) pa_nil))))))
      (pss_one (ps_ret (pv 4))))))
abbrev s_train : Stmt := (topS 10)
theorem sc_train : FnScope N_train ["vectors", "number", "rounds"] (defScope s_train) := ⟨rfl, rfl, rfl, by decide +kernel, rfl, by decide +kernel, by decide +kernel⟩
theorem ok_train (D_move : Dfn P w K mg base 3 "move" ["centres", "vectors"] (sp_move K c)) (m_len : mg "len" = none) (m_min : mg "min" = none) (m_range : mg "range" = none) (m_tuple : mg "tuple" = none) {f : Addr} {fd : FuncData} (F : Fun K "train" "train" s_train f fd) : FnOk P w K mg base CX0 4 f fd ["vectors", "number", "rounds"] (sp_train K c) := by
  have sc := sc_train
  refine F.ok sc_train (fun vs H Q E h => ((w_train (c := c)) vs H Q E h).1) (fun cdv A outer s H vs Q E hr h => ⟨T_train K c, ?_, ((w_train (c := c)) vs H Q E h).2⟩)
  exact (pss_cons (ps_set (i := 3) sc.nd rfl (by first | exact Or.inl rfl | exact Or.inr rfl) (pe_callB (call_uMin rfl) (by rfl) m_min (by decide +kernel) (pa_cons (pv 1) (pa_cons (pe_callB call_uLen (by rfl) m_len (by decide +kernel) (pa_cons (pv 0) pa_nil)) pa_nil))))
      (pss_cons (by first | exact (ps_setLc (i := 4) (own := [("i", 5)]) (g := (gName 5)) (tt := tYes) rfl sc.nd rfl rfl (sw_true rfl rfl rfl (by decide +kernel)) (pi_range1 (by rfl) m_range (pa_cons (pv 3) pa_nil)) (blkOk_by (N := N_train) (sc := defScope s_train) (by decide +kernel)) (fun _ _ _ _ _ => (pg_name (i := 5) sc.nd rfl (by first | exact Or.inl rfl | exact Or.inr rfl))) (fun _ _ _ _ _ => pts_nil) (fun _ _ _ _ _ => (pe_callTy call_uTuple (by rfl) m_tuple (by decide +kernel) (pa_cons (pe_ix ix_uIx (pv 0) (pe_op op_uDiv (pe_op op_uMul (pv 5) (pe_callB call_uLen (by rfl) m_len (by decide +kernel) (pa_cons (pv 0) pa_nil))) (pv 3)) (fun _ _ => rfl)) pa_nil)))) | exact (ps_set (i := 4) sc.nd rfl (Or.inr rfl) (pe_lc (own := [("i", 5)]) (g := (gName 5)) (tt := tYes) rfl sc.nd (pi_range1 (by rfl) m_range (pa_cons (pv 3) pa_nil)) (blkOk_by (N := N_train) (sc := defScope s_train) (by decide +kernel)) (fun _ _ _ _ _ => (pg_name (i := 5) sc.nd rfl (by first | exact Or.inl rfl | exact Or.inr rfl))) (fun _ _ _ _ _ => pts_nil) (fun _ _ _ _ _ => (pe_callTy call_uTuple (by rfl) m_tuple (by decide +kernel) (pa_cons (pe_ix ix_uIx (pv 0) (pe_op op_uDiv (pe_op op_uMul (pv 5) (pe_callB call_uLen (by rfl) m_len (by decide +kernel) (pa_cons (pv 0) pa_nil))) (pv 3)) (fun _ _ => rfl)) pa_nil))))))
      (pss_cut (ps_if (pt_cmpR op_uGt (pv 3) pe_int (nomark _)) (pss_one (ps_for PassesOwn.never rfl (pi_range1 (by rfl) m_range (pa_cons (pv 2) pa_nil)) (pg_name (i := 6) sc.nd rfl (by first | exact Or.inl rfl | exact Or.inr rfl)) (pss_one (ps_set (i := 4) sc.nd rfl (by first | exact Or.inl rfl | exact Or.inr rfl) (z_call D_move (hr.mono (by decide)) (by rfl) (pa_cons (pv 4) (pa_cons (pv 0) pa_nil))))))) pss_nil)
      (pss_one (ps_ret (pv 4))))))
abbrev s_neighbours : Stmt := (topS 17)
theorem sc_neighbours : FnScope N_neighbours ["centres", "place", "cells"] (defScope s_neighbours) := ⟨rfl, rfl, rfl, by decide +kernel, rfl, by decide +kernel, by decide +kernel⟩
theorem ok_neighbours (D_distance : Dfn P w K mg base 1 "distance" ["a", "b"] (sp_distance K c)) (m_len : mg "len" = none) (m_range : mg "range" = none) (m_sorted : mg "sorted" = none) {f : Addr} {fd : FuncData} (F : Fun K "neighbours" "neighbours" s_neighbours f fd) (LM_neighbours : ZL.LamF base mg c.tb fd "neighbours") : FnOk P w K mg base CX0 6 f fd ["centres", "place", "cells"] (sp_neighbours K c) := by
  have sc := sc_neighbours
  refine ZL.okL F LM_neighbours sc_neighbours (fun vs H Q E h => ((w_neighbours (c := c)) vs H Q E h).1) (fun c0 P0 TB hm hu A outer s H vs Q E hr h => ⟨T_neighbours K c, ?_, ((w_neighbours (c := c)) vs H Q E h).2⟩)
  exact (pss_cons (by first | exact (ps_setLc (i := 3) (own := [("other", 4)]) (g := (gName 4)) (tt := (tTest (tOp (uNe K) (tVar 4) (tVar 1)))) rfl sc.nd rfl rfl (sw_true rfl rfl rfl (by decide +kernel)) (pi_range1 (by rfl) m_range (pa_cons (pe_callB call_uLen (by rfl) m_len (by decide +kernel) (pa_cons (pv 0) pa_nil)) pa_nil)) (blkOk_by (N := N_neighbours) (sc := defScope s_neighbours) (by decide +kernel)) (fun _ _ _ _ _ => (pg_name (i := 4) sc.nd rfl (by first | exact Or.inl rfl | exact Or.inr rfl))) (fun _ _ _ _ _ => (pts_one (pt_cmpR (op_uNe hr.units) (pv 4) (pv 1) (nomark _)))) (fun _ _ _ _ _ => (pv 4))) | exact (ps_set (i := 3) sc.nd rfl (Or.inr rfl) (pe_lc (own := [("other", 4)]) (g := (gName 4)) (tt := (tTest (tOp (uNe K) (tVar 4) (tVar 1)))) rfl sc.nd (pi_range1 (by rfl) m_range (pa_cons (pe_callB call_uLen (by rfl) m_len (by decide +kernel) (pa_cons (pv 0) pa_nil)) pa_nil)) (blkOk_by (N := N_neighbours) (sc := defScope s_neighbours) (by decide +kernel)) (fun _ _ _ _ _ => (pg_name (i := 4) sc.nd rfl (by first | exact Or.inl rfl | exact Or.inr rfl))) (fun _ _ _ _ _ => (pts_one (pt_cmpR (op_uNe hr.units) (pv 4) (pv 1) (nomark _)))) (fun _ _ _ _ _ => (pv 4)))))
      (pss_cons (ps_set (i := 5) sc.nd rfl (by first | exact Or.inl rfl | exact Or.inr rfl) (ZL.pe_srtK (k := 2) (by rfl) m_sorted (pv 3) TB rfl hm hu (hr.mono (by decide)) (ZL.lamS1_by (sc := defScope s_neighbours) (by decide +kernel)) rfl (fun _ _ _ _ _ _ => rfl) (fun A s H f c2 hr2 => (z_call D_distance (hr2.mono (by decide)) (by rfl) (pa_cons (pe_ix ix_uIx (pv 0) (pv 4) (fun _ _ => rfl)) (pa_cons (pe_ix ix_uIx (pv 0) (pv 1) (fun _ _ => rfl)) pa_nil)))) rfl (ZL.at_inj sc.nd rfl)))
      (pss_one (ps_ret (pe_lc (own := [("other", 4)]) (g := (gName 4)) (tt := tYes) rfl sc.nd (pi_sq (pe_slice sl_uSl (pv 5) po_none (po_some (pv 2)))) (blkOk_by (N := N_neighbours) (sc := defScope s_neighbours) (by decide +kernel)) (fun _ _ _ _ _ => (pg_name (i := 4) sc.nd rfl (by first | exact Or.inl rfl | exact Or.inr rfl))) (fun _ _ _ _ _ => pts_nil) (fun _ _ _ _ _ => (pe_ix ix_uIx (pv 0) (pv 4) (fun _ _ => rfl))))))))
abbrev s_Sketch_init : Stmt := (inClass (topS 4) 0)
theorem sc_Sketch_init : FnScope N_Sketch_init ["self", "parent", "centres", "cells"] (defScope s_Sketch_init) := ⟨rfl, rfl, rfl, by decide +kernel, rfl, by decide +kernel, by decide +kernel⟩
theorem ok_Sketch_init (m_tuple : mg "tuple" = none) {f : Addr} {fd : FuncData} (F : Fun K "__init__" "Sketch.__init__" s_Sketch_init f fd) : FnOk P w K mg base CX0 1 f fd ["self", "parent", "centres", "cells"] (sp_Sketch_init K c) := by
  have sc := sc_Sketch_init
  refine F.ok sc_Sketch_init (fun vs H Q E h => ((w_Sketch_init (c := c)) vs H Q E h).1) (fun cdv A outer s H vs Q E hr h => ⟨T_Sketch_init K, ?_, ((w_Sketch_init (c := c)) vs H Q E h).2⟩)
  exact (pss_cons (ps_fld (pv 0) (pv 1) rfl)
      (pss_cons (ps_fld (pv 0) (pe_callTy call_uTuple (by rfl) m_tuple (by decide +kernel) (pa_cons (pe_lc (own := [("start", 4), ("centre", 5)]) (g := (gTup K 2 (gCons (gName 4) (gCons (gName 5) gNil)))) (tt := tYes) rfl sc.nd (pi_sq (pv 2)) (blkOk_by (N := N_Sketch_init) (sc := defScope s_Sketch_init) (by decide +kernel)) (fun _ _ _ _ _ => (pg_tup rfl (pgs_cons (pg_name (i := 4) sc.nd rfl (by first | exact Or.inl rfl | exact Or.inr rfl)) (pgs_cons (pg_name (i := 5) sc.nd rfl (by first | exact Or.inl rfl | exact Or.inr rfl)) pgs_nil)))) (fun _ _ _ _ _ => pts_nil) (fun _ _ _ _ _ => (pe_tup (pa_cons (pv 4) (pa_cons (pe_callTy call_uTuple (by rfl) m_tuple (by decide +kernel) (pa_cons (pv 5) pa_nil)) pa_nil))))) pa_nil)) rfl)
      (pss_one (ps_fld (pv 0) (pe_callTy call_uTuple (by rfl) m_tuple (by decide +kernel) (pa_cons (pe_lc (own := [("near", 6), ("rival", 7)]) (g := (gTup K 2 (gCons (gName 6) (gCons (gName 7) gNil)))) (tt := tYes) rfl sc.nd (pi_sq (pv 3)) (blkOk_by (N := N_Sketch_init) (sc := defScope s_Sketch_init) (by decide +kernel)) (fun _ _ _ _ _ => (pg_tup rfl (pgs_cons (pg_name (i := 6) sc.nd rfl (by first | exact Or.inl rfl | exact Or.inr rfl)) (pgs_cons (pg_name (i := 7) sc.nd rfl (by first | exact Or.inl rfl | exact Or.inr rfl)) pgs_nil)))) (fun _ _ _ _ _ => pts_nil) (fun _ _ _ _ _ => (pe_tup (pa_cons (pe_callTy call_uTuple (by rfl) m_tuple (by decide +kernel) (pa_cons (pv 6) pa_nil)) (pa_cons (pe_callTy call_uTuple (by rfl) m_tuple (by decide +kernel) (pa_cons (pv 7) pa_nil)) pa_nil))))) pa_nil)) rfl))))
abbrev s_Layout_init : Stmt := (inClass (topS 5) 0)
theorem sc_Layout_init : FnScope N_Layout_init ["self", "sketches", "leaves"] (defScope s_Layout_init) := ⟨rfl, rfl, rfl, by decide +kernel, rfl, by decide +kernel, by decide +kernel⟩
theorem ok_Layout_init (m_tuple : mg "tuple" = none) {f : Addr} {fd : FuncData} (F : Fun K "__init__" "Layout.__init__" s_Layout_init f fd) : FnOk P w K mg base CX0 1 f fd ["self", "sketches", "leaves"] (sp_Layout_init K c) := by
  have sc := sc_Layout_init
  refine F.ok sc_Layout_init (fun vs H Q E h => ((w_Layout_init (c := c)) vs H Q E h).1) (fun cdv A outer s H vs Q E hr h => ⟨T_Layout_init K, ?_, ((w_Layout_init (c := c)) vs H Q E h).2⟩)
  exact (pss_cons (ps_fld (pv 0) (pe_callTy call_uTuple (by rfl) m_tuple (by decide +kernel) (pa_cons (pv 1) pa_nil)) rfl)
      (pss_one (ps_fld (pv 0) (pe_callTy call_uTuple (by rfl) m_tuple (by decide +kernel) (pa_cons (pv 2) pa_nil)) rfl)))
abbrev s_Lists_layout : Stmt := (inClass (topS 18) 1)
theorem sc_Lists_layout : FnScope N_Lists_layout ["self", "schema", "records"] (defScope s_Lists_layout) := ⟨rfl, rfl, rfl, by decide +kernel, rfl, by decide +kernel, by decide +kernel⟩
theorem ok_Lists_layout (C_Sketch : ClsF K mg c "Sketch" ["parent", "centres", "cells"]) (C_Layout : ClsF K mg c "Layout" ["sketches", "leaves"]) (D_train : Dfn P w K mg base 4 "train" ["vectors", "number", "rounds"] (sp_train K c)) (D_neighbours : Dfn P w K mg base 6 "neighbours" ["centres", "place", "cells"] (sp_neighbours K c)) (K_Sketch_init_1_centres_cells : MkrK CX0 P w K mg base 1 (c.cls "Sketch") ["self", "parent", "centres", "cells"] (sp_Sketch_init K c) 1 ["centres", "cells"] [] [(true, 0), (true, 1)]) (K_Sketch_init_1 : MkrK CX0 P w K mg base 1 (c.cls "Sketch") ["self", "parent", "centres", "cells"] (sp_Sketch_init K c) 1 [] [.e, .e] [(false, 0), (false, 1)]) (D_nearest : Dfn P w K mg base 2 "nearest" ["centres", "vector"] (sp_nearest K c)) (K_Layout_init : Mkr P w K mg base 1 (c.cls "Layout") ["self", "sketches", "leaves"] (sp_Layout_init K c)) (m_enumerate : mg "enumerate" = none) (m_len : mg "len" = none) (m_range : mg "range" = none) {f : Addr} {fd : FuncData} (F : Fun K "layout" "Lists.layout" s_Lists_layout f fd) : FnOk P w K mg base CX0 7 f fd ["self", "schema", "records"] (sp_Lists_layout K c) := by
  have sc := sc_Lists_layout
  refine F.ok sc_Lists_layout (fun vs H Q E h => ((w_Lists_layout (c := c)) vs H Q E h).1) (fun cdv A outer s H vs Q E hr h => ⟨T_Lists_layout K c, ?_, ((w_Lists_layout (c := c)) vs H Q E h).2⟩)
  exact (pss_cons (by first | exact (ps_setLc (i := 3) (own := [("record", 4)]) (g := (gName 4)) (tt := tYes) rfl sc.nd rfl rfl (sw_true rfl rfl rfl (by decide +kernel)) (pi_sq (pv 2)) (blkOk_by (N := N_Lists_layout) (sc := defScope s_Lists_layout) (by decide +kernel)) (fun _ _ _ _ _ => (pg_name (i := 4) sc.nd rfl (by first | exact Or.inl rfl | exact Or.inr rfl))) (fun _ _ _ _ _ => pts_nil) (fun _ _ _ _ _ => (pe_fld (pv 4) rfl))) | exact (ps_set (i := 3) sc.nd rfl (Or.inr rfl) (pe_lc (own := [("record", 4)]) (g := (gName 4)) (tt := tYes) rfl sc.nd (pi_sq (pv 2)) (blkOk_by (N := N_Lists_layout) (sc := defScope s_Lists_layout) (by decide +kernel)) (fun _ _ _ _ _ => (pg_name (i := 4) sc.nd rfl (by first | exact Or.inl rfl | exact Or.inr rfl))) (fun _ _ _ _ _ => pts_nil) (fun _ _ _ _ _ => (pe_fld (pv 4) rfl)))))
      (pss_cons (ps_set (i := 5) sc.nd rfl (by first | exact Or.inl rfl | exact Or.inr rfl) (z_call D_train (hr.mono (by decide)) (by rfl) (pa_cons (pv 3) (pa_cons (pe_fld (pv 0) rfl) (pa_cons (pe_fld (pv 0) rfl) pa_nil)))))
      (pss_cons (ps_set (i := 6) sc.nd rfl (by first | exact Or.inl rfl | exact Or.inr rfl) (pe_lst pa_nil))
      (pss_cons (ps_for PassesOwn.never rfl (pi_enumA (by rfl) m_enumerate (pa_cons (pv 5) pa_nil)) (pg_tup rfl (pgs_cons (pg_name (i := 7) sc.nd rfl (by first | exact Or.inl rfl | exact Or.inr rfl)) (pgs_cons (pg_name (i := 8) sc.nd rfl (by first | exact Or.inl rfl | exact Or.inr rfl)) pgs_nil))) (pss_cons (by first | exact (ps_setLc (i := 9) (own := [("rival", 10)]) (g := (gName 10)) (tt := tYes) rfl sc.nd rfl rfl (sw_true rfl rfl rfl (by decide +kernel)) (pi_sq (z_call D_neighbours (hr.mono (by decide)) (by rfl) (pa_cons (pv 5) (pa_cons (pv 7) (pa_cons (pe_fld (pv 0) rfl) pa_nil))))) (blkOk_by (N := N_Lists_layout) (sc := defScope s_Lists_layout) (by decide +kernel)) (fun _ _ _ _ _ => (pg_name (i := 10) sc.nd rfl (by first | exact Or.inl rfl | exact Or.inr rfl))) (fun _ _ _ _ _ => pts_nil) (fun _ _ _ _ _ => (pe_tup (pa_cons (pv 8) (pa_cons (pv 10) pa_nil))))) | exact (ps_set (i := 9) sc.nd rfl (Or.inr rfl) (pe_lc (own := [("rival", 10)]) (g := (gName 10)) (tt := tYes) rfl sc.nd (pi_sq (z_call D_neighbours (hr.mono (by decide)) (by rfl) (pa_cons (pv 5) (pa_cons (pv 7) (pa_cons (pe_fld (pv 0) rfl) pa_nil))))) (blkOk_by (N := N_Lists_layout) (sc := defScope s_Lists_layout) (by decide +kernel)) (fun _ _ _ _ _ => (pg_name (i := 10) sc.nd rfl (by first | exact Or.inl rfl | exact Or.inr rfl))) (fun _ _ _ _ _ => pts_nil) (fun _ _ _ _ _ => (pe_tup (pa_cons (pv 8) (pa_cons (pv 10) pa_nil)))))))
      (pss_one (ps_expr (pe_bm PySem.F.plainAttrs_list PySem.F.slot_list_append PySem.F.type_list_append mt_append (pv 6) (pa_cons (z_makeK C_Sketch K_Sketch_init_1_centres_cells pass00 (hr.mono (by decide)) (by rfl) (pa_cons pe_non pa_nil) (pk_cons (pe_lst (pa_cons (pe_tup (pa_cons pe_int (pa_cons (pv 8) pa_nil))) pa_nil)) (pk_cons (pv 9) pk_nil))) pa_nil))))))
      (pss_cons (by first | exact (ps_setLc (i := 11) (own := [("vector", 12)]) (g := (gName 12)) (tt := tYes) rfl sc.nd rfl rfl (sw_true rfl rfl rfl (by decide +kernel)) (pi_sq (pv 3)) (blkOk_by (N := N_Lists_layout) (sc := defScope s_Lists_layout) (by decide +kernel)) (fun _ _ _ _ _ => (pg_name (i := 12) sc.nd rfl (by first | exact Or.inl rfl | exact Or.inr rfl))) (fun _ _ _ _ _ => pts_nil) (fun _ _ _ _ _ => (z_call D_nearest (hr.mono (by decide)) (by rfl) (pa_cons (pv 5) (pa_cons (pv 12) pa_nil))))) | exact (ps_set (i := 11) sc.nd rfl (Or.inr rfl) (pe_lc (own := [("vector", 12)]) (g := (gName 12)) (tt := tYes) rfl sc.nd (pi_sq (pv 3)) (blkOk_by (N := N_Lists_layout) (sc := defScope s_Lists_layout) (by decide +kernel)) (fun _ _ _ _ _ => (pg_name (i := 12) sc.nd rfl (by first | exact Or.inl rfl | exact Or.inr rfl))) (fun _ _ _ _ _ => pts_nil) (fun _ _ _ _ _ => (z_call D_nearest (hr.mono (by decide)) (by rfl) (pa_cons (pv 5) (pa_cons (pv 12) pa_nil)))))))
      (pss_cons (by first | exact (ps_setLc (i := 13) (own := [("_", 14)]) (g := (gName 14)) (tt := tYes) rfl sc.nd rfl rfl (sw_true rfl rfl rfl (by decide +kernel)) (pi_sq (pv 2)) (blkOk_by (N := N_Lists_layout) (sc := defScope s_Lists_layout) (by decide +kernel)) (fun _ _ _ _ _ => (pg_name (i := 14) sc.nd rfl (by first | exact Or.inl rfl | exact Or.inr rfl))) (fun _ _ _ _ _ => pts_nil) (fun _ _ _ _ _ => pe_int)) | exact (ps_set (i := 13) sc.nd rfl (Or.inr rfl) (pe_lc (own := [("_", 14)]) (g := (gName 14)) (tt := tYes) rfl sc.nd (pi_sq (pv 2)) (blkOk_by (N := N_Lists_layout) (sc := defScope s_Lists_layout) (by decide +kernel)) (fun _ _ _ _ _ => (pg_name (i := 14) sc.nd rfl (by first | exact Or.inl rfl | exact Or.inr rfl))) (fun _ _ _ _ _ => pts_nil) (fun _ _ _ _ _ => pe_int))))
      (pss_cons (ps_for PassesOwn.never rfl (pi_range1 (by rfl) m_range (pa_cons (pe_callB call_uLen (by rfl) m_len (by decide +kernel) (pa_cons (pv 5) pa_nil)) pa_nil)) (pg_name (i := 7) sc.nd rfl (by first | exact Or.inl rfl | exact Or.inr rfl)) (pss_cons (by first | exact (ps_setLc (i := 15) (own := [("at", 16), ("home", 17)]) (g := (gTup K 2 (gCons (gName 16) (gCons (gName 17) gNil)))) (tt := (tTest (tOp (uEq K) (tVar 17) (tVar 7)))) rfl sc.nd rfl rfl (sw_true rfl rfl rfl (by decide +kernel)) (pi_enumA (by rfl) m_enumerate (pa_cons (pv 11) pa_nil)) (blkOk_by (N := N_Lists_layout) (sc := defScope s_Lists_layout) (by decide +kernel)) (fun _ _ _ _ _ => (pg_tup rfl (pgs_cons (pg_name (i := 16) sc.nd rfl (by first | exact Or.inl rfl | exact Or.inr rfl)) (pgs_cons (pg_name (i := 17) sc.nd rfl (by first | exact Or.inl rfl | exact Or.inr rfl)) pgs_nil)))) (fun _ _ _ _ _ => (pts_one (pt_cmpR (op_uEq hr.units) (pv 17) (pv 7) (nomark _)))) (fun _ _ _ _ _ => (pv 16))) | exact (ps_set (i := 15) sc.nd rfl (Or.inr rfl) (pe_lc (own := [("at", 16), ("home", 17)]) (g := (gTup K 2 (gCons (gName 16) (gCons (gName 17) gNil)))) (tt := (tTest (tOp (uEq K) (tVar 17) (tVar 7)))) rfl sc.nd (pi_enumA (by rfl) m_enumerate (pa_cons (pv 11) pa_nil)) (blkOk_by (N := N_Lists_layout) (sc := defScope s_Lists_layout) (by decide +kernel)) (fun _ _ _ _ _ => (pg_tup rfl (pgs_cons (pg_name (i := 16) sc.nd rfl (by first | exact Or.inl rfl | exact Or.inr rfl)) (pgs_cons (pg_name (i := 17) sc.nd rfl (by first | exact Or.inl rfl | exact Or.inr rfl)) pgs_nil)))) (fun _ _ _ _ _ => (pts_one (pt_cmpR (op_uEq hr.units) (pv 17) (pv 7) (nomark _)))) (fun _ _ _ _ _ => (pv 16)))))
      (pss_one (ps_for PassesOwn.never rfl (pi_enumA (by rfl) m_enumerate (pa_cons (pv 15) pa_nil)) (pg_tup rfl (pgs_cons (pg_name (i := 18) sc.nd rfl (by first | exact Or.inl rfl | exact Or.inr rfl)) (pgs_cons (pg_name (i := 16) sc.nd rfl (by first | exact Or.inl rfl | exact Or.inr rfl)) pgs_nil))) (pss_cut (ps_if (pt_cmpR (op_uEq hr.units) (pe_op op_uMod (pv 18) (pe_fld (pv 0) rfl)) pe_int (nomark _)) (pss_one (ps_expr (pe_bm PySem.F.plainAttrs_list PySem.F.slot_list_append PySem.F.type_list_append mt_append (pv 6) (pa_cons (z_makeK C_Sketch K_Sketch_init_1 pass00 (hr.mono (by decide)) (by rfl) (pa_cons (pv 7) pa_nil) pk_nil) pa_nil)))) pss_nil)
      (pss_one (ps_asg (pe_op op_uSub (pe_callB call_uLen (by rfl) m_len (by decide +kernel) (pa_cons (pv 6) pa_nil)) pe_int) (pg_sub (pv 13) (pv 16) set_list))))))))
      (pss_one (ps_ret (z_make C_Layout K_Layout_init (hr.mono (by decide)) (by rfl) (pa_cons (pv 6) (pa_cons (pv 13) pa_nil))))))))))))
abbrev s_is_letter : Stmt := (topS 28)
theorem sc_is_letter : FnScope N_is_letter ["sign"] (defScope s_is_letter) := ⟨rfl, rfl, rfl, by decide +kernel, rfl, by decide +kernel, by decide +kernel⟩
theorem ok_is_letter {f : Addr} {fd : FuncData} (F : Fun K "is_letter" "is_letter" s_is_letter f fd) : FnOk P w K mg base CX0 1 f fd ["sign"] (sp_is_letter K c) := by
  have sc := sc_is_letter
  refine F.ok sc_is_letter (fun vs H Q E h => ((w_is_letter (c := c)) vs H Q E h).1) (fun cdv A outer s H vs Q E hr h => ⟨T_is_letter K, ?_, ((w_is_letter (c := c)) vs H Q E h).2⟩)
  exact (pss_one (ps_ret (pe_or (pe_chain op_uLe op_uLe pe_str (pv 0) pe_str) (pe_or (pe_chain op_uLe op_uLe pe_str (pv 0) pe_str) (pe_one (pe_cmpR (op_uEq hr.units) (pv 0) pe_str (nomark _)))))))
abbrev s_is_digit : Stmt := (topS 29)
theorem sc_is_digit : FnScope N_is_digit ["sign"] (defScope s_is_digit) := ⟨rfl, rfl, rfl, by decide +kernel, rfl, by decide +kernel, by decide +kernel⟩
theorem ok_is_digit {f : Addr} {fd : FuncData} (F : Fun K "is_digit" "is_digit" s_is_digit f fd) : FnOk P w K mg base CX0 1 f fd ["sign"] (sp_is_digit K c) := by
  have sc := sc_is_digit
  refine F.ok sc_is_digit (fun vs H Q E h => ((w_is_digit (c := c)) vs H Q E h).1) (fun cdv A outer s H vs Q E hr h => ⟨T_is_digit K, ?_, ((w_is_digit (c := c)) vs H Q E h).2⟩)
  exact (pss_one (ps_ret (pe_chain op_uLe op_uLe pe_str (pv 0) pe_str)))
abbrev s_is_field_name : Stmt := (topS 30)
theorem sc_is_field_name : FnScope N_is_field_name ["name"] (defScope s_is_field_name) := ⟨rfl, rfl, rfl, by decide +kernel, rfl, by decide +kernel, by decide +kernel⟩
theorem ok_is_field_name (D_is_letter : Dfn P w K mg base 1 "is_letter" ["sign"] (sp_is_letter K c)) (D_is_digit : Dfn P w K mg base 1 "is_digit" ["sign"] (sp_is_digit K c)) (g_WORDS : ∃ T, mg "WORDS" = some (.ref T) ∧ ∀ H, SqT K H T [.str "every", .str "has", .str "in", .str "and", .str "or", .str "not", .str "true", .str "false"]) {f : Addr} {fd : FuncData} (F : Fun K "is_field_name" "is_field_name" s_is_field_name f fd) : FnOk P w K mg base CX0 2 f fd ["name"] (sp_is_field_name K c) := by
  have sc := sc_is_field_name
  refine F.ok sc_is_field_name (fun vs H Q E h => ((w_is_field_name (c := c)) vs H Q E h).1) (fun cdv A outer s H vs Q E hr h => ⟨T_is_field_name K c, ?_, ((w_is_field_name (c := c)) vs H Q E h).2⟩)
  exact (pss_cons (ps_if (PW.pt (pw_or (pt_cmpR (op_uEq hr.units) (pv 0) pe_str (nomark _)) (pw_or (pt_not (pt_u (z_call D_is_letter (hr.mono (by decide)) (by rfl) (pa_cons (pe_ix ix_uIx (pv 0) pe_int (fun _ _ => rfl)) pa_nil)))) (pw_or1 (pt_cmpR op_uIn (pv 0) (z_gtup g_WORDS (by rfl)) (by rfl)))))) (pss_one (ps_ret pe_bl)) pss_nil)
      (pss_cons (ps_for PassesOwn.never rfl (pi_str (pv 0)) (pg_name (i := 1) sc.nd rfl (by first | exact Or.inl rfl | exact Or.inr rfl)) (pss_one (ps_if (PW.pt (pw_and (pt_not (pt_u (z_call D_is_letter (hr.mono (by decide)) (by rfl) (pa_cons (pv 1) pa_nil)))) (pw_and1 (pt_not (pt_u (z_call D_is_digit (hr.mono (by decide)) (by rfl) (pa_cons (pv 1) pa_nil))))))) (pss_one (ps_ret pe_bl)) pss_nil)))
      (pss_one (ps_ret pe_bl))))
abbrev s_Schema_init : Stmt := (inClass (topS 33) 0)
theorem sc_Schema_init : FnScope N_Schema_init ["self", "size", "width", "measure", "fields"] (defScope s_Schema_init) := ⟨rfl, rfl, rfl, by decide +kernel, rfl, by decide +kernel, by decide +kernel⟩
theorem ok_Schema_init (E_InvalidSchema : ExcF K mg c "InvalidSchema") (D_is_field_name : Dfn P w K mg base 2 "is_field_name" ["name"] (sp_is_field_name K c)) (m_tuple : mg "tuple" = none) (g_RANGES : KD K w mg "RANGES" [("bit", .t [.int 0, .int 1]), ("small", .t [.int (-128), .int 127]), ("wide", .t [.int (-32768), .int 32767])]) (g_MEASURES : ∃ T, mg "MEASURES" = some (.ref T) ∧ ∀ H, SqT K H T [.str "square", .str "dot", .str "bits"]) (g_KINDS : ∃ T, mg "KINDS" = some (.ref T) ∧ ∀ H, SqT K H T [.str "integer", .str "text", .str "flag"]) {f : Addr} {fd : FuncData} (F : Fun K "__init__" "Schema.__init__" s_Schema_init f fd) : FnOk P w K mg base (L2.CX P w) 3 f fd ["self", "size", "width", "measure", "fields"] (sp_Schema_init K c) := by
  have sc := sc_Schema_init
  refine F.okX sc_Schema_init (fun vs H Q E h => ((w_Schema_init (c := c)) vs H Q E h).1) (fun cdv A outer s H vs Q E hr h => ⟨T_Schema_init K c (fun cls d _ H => E cls d H), ?_, ((w_Schema_init (c := c)) vs H Q E h).2⟩)
  exact (pss_cons (ps_if (PW.pt (pw_or (pt_cmpR (op_uLt hr.units) (pv 1) pe_int (nomark _)) (pw_or (z_koutP g_RANGES (pv 2) (by rfl)) (pw_or1 (pt_cmpR op_uNotIn (pv 3) (z_gtup g_MEASURES (by rfl)) (by rfl)))))) (pss_one (z_raise rfl E_InvalidSchema (takes_of rfl rfl rfl rfl) (by rfl))) pss_nil)
      (pss_cons (ps_if (PW.pt (pw_and (pt_cmpR (op_uEq hr.units) (pv 3) pe_str (nomark _)) (pw_and1 (pt_cmpR (op_uNe hr.units) (pv 2) pe_str (nomark _))))) (pss_one (z_raise rfl E_InvalidSchema (takes_of rfl rfl rfl rfl) (by rfl))) pss_nil)
      (pss_cons (ps_set (i := 5) sc.nd rfl (by first | exact Or.inl rfl | exact Or.inr rfl) (pe_lst pa_nil))
      (pss_cons (ps_for (passes_of rfl) rfl (pi_sq (pv 4)) (pg_tup rfl (pgs_cons (pg_name (i := 6) sc.nd rfl (by first | exact Or.inl rfl | exact Or.inr rfl)) (pgs_cons (pg_name (i := 7) sc.nd rfl (by first | exact Or.inl rfl | exact Or.inr rfl)) pgs_nil))) (pss_cons (ps_if (PW.pt (pw_or (pt_cmpR op_uNotIn (pv 7) (z_gtup g_KINDS (by rfl)) (by rfl)) (pw_or (pt_not (pt_u (z_call D_is_field_name (hr.mono (by decide)) (by rfl) (pa_cons (pv 6) pa_nil)))) (pw_or1 (pt_cmpR op_uIn (pv 6) (pv 5) (by rfl)))))) (pss_one (z_raise rfl E_InvalidSchema (takes_of rfl rfl rfl rfl) (by rfl))) pss_nil)
      (pss_one (ps_expr (pe_bm PySem.F.plainAttrs_list PySem.F.slot_list_append PySem.F.type_list_append mt_append (pv 5) (pa_cons (pv 6) pa_nil))))))
      (pss_cons (ps_fld (pv 0) (pv 1) rfl)
      (pss_cons (ps_fld (pv 0) (pv 2) rfl)
      (pss_cons (ps_fld (pv 0) (pv 3) rfl)
      (pss_one (ps_fld (pv 0) (pe_callTy call_uTuple (by rfl) m_tuple (by decide +kernel) (pa_cons (pe_lc (own := [("name", 6), ("kind", 7)]) (g := (gTup K 2 (gCons (gName 6) (gCons (gName 7) gNil)))) (tt := tYes) rfl sc.nd (pi_sq (pv 4)) (blkOk_by (N := N_Schema_init) (sc := defScope s_Schema_init) (by decide +kernel)) (fun _ _ _ _ _ => (pg_tup rfl (pgs_cons (pg_name (i := 6) sc.nd rfl (by first | exact Or.inl rfl | exact Or.inr rfl)) (pgs_cons (pg_name (i := 7) sc.nd rfl (by first | exact Or.inl rfl | exact Or.inr rfl)) pgs_nil)))) (fun _ _ _ _ _ => pts_nil) (fun _ _ _ _ _ => (pe_tup (pa_cons (pv 6) (pa_cons (pv 7) pa_nil))))) pa_nil)) rfl)))))))))
abbrev s_law_distance : Stmt := (topS 38)
theorem sc_law_distance : FnScope N_law_distance ["_law_a", "_law_b"] (defScope s_law_distance) := ⟨rfl, rfl, rfl, by decide +kernel, rfl, by decide +kernel, by decide +kernel⟩
theorem ok_law_distance (m_len : mg "len" = none) (m_range : mg "range" = none) {f : Addr} {fd : FuncData} (F : Fun K "_law_distance" "_law_distance" s_law_distance f fd) : FnOk P w K mg base CX0 1 f fd ["_law_a", "_law_b"] (sp_law_distance K c) := by
  have sc := sc_law_distance
  refine F.ok sc_law_distance (fun vs H Q E h => ((w_law_distance (c := c)) vs H Q E h).1) (fun cdv A outer s H vs Q E hr h => ⟨T_law_distance K, ?_, ((w_law_distance (c := c)) vs H Q E h).2⟩)
  exact (pss_cons (ps_set (i := 2) sc.nd rfl (by first | exact Or.inl rfl | exact Or.inr rfl) pe_int)
      (pss_cons (ps_for PassesOwn.never rfl (pi_range1 (by rfl) m_range (pa_cons (pe_callB call_uLen (by rfl) m_len (by decide +kernel) (pa_cons (pv 0) pa_nil)) pa_nil)) (pg_name (i := 3) sc.nd rfl (by first | exact Or.inl rfl | exact Or.inr rfl)) (pss_one (ps_set (i := 2) sc.nd rfl (by first | exact Or.inl rfl | exact Or.inr rfl) (pe_op op_uAdd (pv 2) (pe_op op_uMul (pe_op op_uSub (pe_ix ix_uIx (pv 0) (pv 3) (fun _ _ => rfl)) (pe_ix ix_uIx (pv 1) (pv 3) (fun _ _ => rfl))) (pe_op op_uSub (pe_ix ix_uIx (pv 0) (pv 3) (fun _ _ => rfl)) (pe_ix ix_uIx (pv 1) (pv 3) (fun _ _ => rfl))))))))
      (pss_one (ps_ret (pv 2)))))
abbrev s_law_cells : Stmt := (topS 41)
theorem sc_law_cells : FnScope N_law_cells ["_law_centres", "_law_k", "_law_cells_here"] (defScope s_law_cells) := ⟨rfl, rfl, rfl, by decide +kernel, rfl, by decide +kernel, by decide +kernel⟩
theorem ok_law_cells (D_law_distance : Dfn P w K mg base 1 "_law_distance" ["_law_a", "_law_b"] (sp_law_distance K c)) (m_len : mg "len" = none) (m_range : mg "range" = none) (m_list : mg "list" = none) {f : Addr} {fd : FuncData} (F : Fun K "_law_cells" "_law_cells" s_law_cells f fd) : FnOk P w K mg base CX0 2 f fd ["_law_centres", "_law_k", "_law_cells_here"] (sp_law_cells K c) := by
  have sc := sc_law_cells
  refine F.ok sc_law_cells (fun vs H Q E h => ((w_law_cells (c := c)) vs H Q E h).1) (fun cdv A outer s H vs Q E hr h => ⟨T_law_cells K c, ?_, ((w_law_cells (c := c)) vs H Q E h).2⟩)
  exact (pss_cons (ps_set (i := 3) sc.nd rfl (by first | exact Or.inl rfl | exact Or.inr rfl) (pe_lst pa_nil))
      (pss_cons (ps_for PassesOwn.never rfl (pi_range1 (by rfl) m_range (pa_cons (pe_callB call_uLen (by rfl) m_len (by decide +kernel) (pa_cons (pv 0) pa_nil)) pa_nil)) (pg_name (i := 4) sc.nd rfl (by first | exact Or.inl rfl | exact Or.inr rfl)) (pss_one (ps_if (pt_cmpR (op_uNe hr.units) (pv 4) (pv 1) (nomark _)) (pss_cons (ps_set (i := 5) sc.nd rfl (by first | exact Or.inl rfl | exact Or.inr rfl) pe_int)
      (pss_cons (ps_for PassesOwn.never rfl (pi_range1 (by rfl) m_range (pa_cons (pe_callB call_uLen (by rfl) m_len (by decide +kernel) (pa_cons (pv 3) pa_nil)) pa_nil)) (pg_name (i := 6) sc.nd rfl (by first | exact Or.inl rfl | exact Or.inr rfl)) (pss_one (ps_if (pt_cmpR op_uLe (z_call D_law_distance (hr.mono (by decide)) (by rfl) (pa_cons (pe_ix ix_uIx (pv 0) (pe_ix ix_uIx (pv 3) (pv 6) (fun _ _ => rfl)) (fun _ _ => rfl)) (pa_cons (pe_ix ix_uIx (pv 0) (pv 1) (fun _ _ => rfl)) pa_nil))) (z_call D_law_distance (hr.mono (by decide)) (by rfl) (pa_cons (pe_ix ix_uIx (pv 0) (pv 4) (fun _ _ => rfl)) (pa_cons (pe_ix ix_uIx (pv 0) (pv 1) (fun _ _ => rfl)) pa_nil))) (nomark _)) (pss_one (ps_set (i := 5) sc.nd rfl (by first | exact Or.inl rfl | exact Or.inr rfl) (pe_op op_uAdd (pv 6) pe_int))) pss_nil)))
      (pss_one (ps_set (i := 3) sc.nd rfl (by first | exact Or.inl rfl | exact Or.inr rfl) (pe_op op_uAdd (pe_op op_uAdd (pe_slice sl_uSl (pv 3) po_none (po_some (pv 5))) (pe_lst (pa_cons (pv 4) pa_nil))) (pe_slice sl_uSl (pv 3) (po_some (pv 5)) po_none)))))) pss_nil)))
      (pss_one (ps_ret (pe_lc (own := [("_law_j", 4)]) (g := (gName 4)) (tt := tYes) rfl sc.nd (pi_sq (pe_slice sl_uSl (pv 3) po_none (po_some (pv 2)))) (blkOk_by (N := N_law_cells) (sc := defScope s_law_cells) (by decide +kernel)) (fun _ _ _ _ _ => (pg_name (i := 4) sc.nd rfl (by first | exact Or.inl rfl | exact Or.inr rfl))) (fun _ _ _ _ _ => pts_nil) (fun _ _ _ _ _ => (pe_tup (pa_cons (pe_callTy call_uList (by rfl) m_list (by decide +kernel) (pa_cons (pe_ix ix_uIx (pv 0) (pv 1) (fun _ _ => rfl)) pa_nil)) (pa_cons (pe_callTy call_uList (by rfl) m_list (by decide +kernel) (pa_cons (pe_ix ix_uIx (pv 0) (pv 4) (fun _ _ => rfl)) pa_nil)) pa_nil)))))))))
abbrev s_law_nearest : Stmt := (topS 39)
theorem sc_law_nearest : FnScope N_law_nearest ["_law_centres", "_law_vector"] (defScope s_law_nearest) := ⟨rfl, rfl, rfl, by decide +kernel, rfl, by decide +kernel, by decide +kernel⟩
theorem ok_law_nearest (D_law_distance : Dfn P w K mg base 1 "_law_distance" ["_law_a", "_law_b"] (sp_law_distance K c)) (m_len : mg "len" = none) (m_range : mg "range" = none) {f : Addr} {fd : FuncData} (F : Fun K "_law_nearest" "_law_nearest" s_law_nearest f fd) : FnOk P w K mg base CX0 2 f fd ["_law_centres", "_law_vector"] (sp_law_nearest K c) := by
  have sc := sc_law_nearest
  refine F.ok sc_law_nearest (fun vs H Q E h => ((w_law_nearest (c := c)) vs H Q E h).1) (fun cdv A outer s H vs Q E hr h => ⟨T_law_nearest K c, ?_, ((w_law_nearest (c := c)) vs H Q E h).2⟩)
  exact (pss_cons (ps_set (i := 2) sc.nd rfl (by first | exact Or.inl rfl | exact Or.inr rfl) pe_int)
      (pss_cons (ps_for PassesOwn.never rfl (pi_range1 (by rfl) m_range (pa_cons (pe_callB call_uLen (by rfl) m_len (by decide +kernel) (pa_cons (pv 0) pa_nil)) pa_nil)) (pg_name (i := 3) sc.nd rfl (by first | exact Or.inl rfl | exact Or.inr rfl)) (pss_one (ps_if (pt_cmpR (op_uLt hr.units) (z_call D_law_distance (hr.mono (by decide)) (by rfl) (pa_cons (pe_ix ix_uIx (pv 0) (pv 3) (fun _ _ => rfl)) (pa_cons (pv 1) pa_nil))) (z_call D_law_distance (hr.mono (by decide)) (by rfl) (pa_cons (pe_ix ix_uIx (pv 0) (pv 2) (fun _ _ => rfl)) (pa_cons (pv 1) pa_nil))) (nomark _)) (pss_one (ps_set (i := 2) sc.nd rfl (by first | exact Or.inl rfl | exact Or.inr rfl) (pv 3))) pss_nil)))
      (pss_one (ps_ret (pv 2)))))
abbrev s_law_shown : Stmt := (topS 40)
theorem sc_law_shown : FnScope N_law_shown ["_law_layout"] (defScope s_law_shown) := ⟨rfl, rfl, rfl, by decide +kernel, rfl, by decide +kernel, by decide +kernel⟩
theorem ok_law_shown (m_list : mg "list" = none) {f : Addr} {fd : FuncData} (F : Fun K "_law_shown" "_law_shown" s_law_shown f fd) : FnOk P w K mg base CX0 1 f fd ["_law_layout"] (sp_law_shown K c) := by
  have sc := sc_law_shown
  refine F.ok sc_law_shown (fun vs H Q E h => ((w_law_shown (c := c)) vs H Q E h).1) (fun cdv A outer s H vs Q E hr h => ⟨T_law_shown K, ?_, ((w_law_shown (c := c)) vs H Q E h).2⟩)
  exact (pss_cons (ps_set (i := 1) sc.nd rfl (by first | exact Or.inl rfl | exact Or.inr rfl) (pe_lst pa_nil))
      (pss_cons (ps_for PassesOwn.never rfl (pi_sq (pe_fld (pv 0) rfl)) (pg_name (i := 2) sc.nd rfl (by first | exact Or.inl rfl | exact Or.inr rfl)) (pss_cons (by first | exact (ps_setLc (i := 3) (own := [("_law_start", 4), ("_law_centre", 5)]) (g := (gTup K 2 (gCons (gName 4) (gCons (gName 5) gNil)))) (tt := tYes) rfl sc.nd rfl rfl (sw_true rfl rfl rfl (by decide +kernel)) (pi_sq (pe_fld (pv 2) rfl)) (blkOk_by (N := N_law_shown) (sc := defScope s_law_shown) (by decide +kernel)) (fun _ _ _ _ _ => (pg_tup rfl (pgs_cons (pg_name (i := 4) sc.nd rfl (by first | exact Or.inl rfl | exact Or.inr rfl)) (pgs_cons (pg_name (i := 5) sc.nd rfl (by first | exact Or.inl rfl | exact Or.inr rfl)) pgs_nil)))) (fun _ _ _ _ _ => pts_nil) (fun _ _ _ _ _ => (pe_tup (pa_cons (pv 4) (pa_cons (pe_callTy call_uList (by rfl) m_list (by decide +kernel) (pa_cons (pv 5) pa_nil)) pa_nil))))) | exact (ps_set (i := 3) sc.nd rfl (Or.inr rfl) (pe_lc (own := [("_law_start", 4), ("_law_centre", 5)]) (g := (gTup K 2 (gCons (gName 4) (gCons (gName 5) gNil)))) (tt := tYes) rfl sc.nd (pi_sq (pe_fld (pv 2) rfl)) (blkOk_by (N := N_law_shown) (sc := defScope s_law_shown) (by decide +kernel)) (fun _ _ _ _ _ => (pg_tup rfl (pgs_cons (pg_name (i := 4) sc.nd rfl (by first | exact Or.inl rfl | exact Or.inr rfl)) (pgs_cons (pg_name (i := 5) sc.nd rfl (by first | exact Or.inl rfl | exact Or.inr rfl)) pgs_nil)))) (fun _ _ _ _ _ => pts_nil) (fun _ _ _ _ _ => (pe_tup (pa_cons (pv 4) (pa_cons (pe_callTy call_uList (by rfl) m_list (by decide +kernel) (pa_cons (pv 5) pa_nil)) pa_nil)))))))
      (pss_cons (by first | exact (ps_setLc (i := 6) (own := [("_law_near", 7), ("_law_rival", 8)]) (g := (gTup K 2 (gCons (gName 7) (gCons (gName 8) gNil)))) (tt := tYes) rfl sc.nd rfl rfl (sw_true rfl rfl rfl (by decide +kernel)) (pi_sq (pe_fld (pv 2) rfl)) (blkOk_by (N := N_law_shown) (sc := defScope s_law_shown) (by decide +kernel)) (fun _ _ _ _ _ => (pg_tup rfl (pgs_cons (pg_name (i := 7) sc.nd rfl (by first | exact Or.inl rfl | exact Or.inr rfl)) (pgs_cons (pg_name (i := 8) sc.nd rfl (by first | exact Or.inl rfl | exact Or.inr rfl)) pgs_nil)))) (fun _ _ _ _ _ => pts_nil) (fun _ _ _ _ _ => (pe_tup (pa_cons (pe_callTy call_uList (by rfl) m_list (by decide +kernel) (pa_cons (pv 7) pa_nil)) (pa_cons (pe_callTy call_uList (by rfl) m_list (by decide +kernel) (pa_cons (pv 8) pa_nil)) pa_nil))))) | exact (ps_set (i := 6) sc.nd rfl (Or.inr rfl) (pe_lc (own := [("_law_near", 7), ("_law_rival", 8)]) (g := (gTup K 2 (gCons (gName 7) (gCons (gName 8) gNil)))) (tt := tYes) rfl sc.nd (pi_sq (pe_fld (pv 2) rfl)) (blkOk_by (N := N_law_shown) (sc := defScope s_law_shown) (by decide +kernel)) (fun _ _ _ _ _ => (pg_tup rfl (pgs_cons (pg_name (i := 7) sc.nd rfl (by first | exact Or.inl rfl | exact Or.inr rfl)) (pgs_cons (pg_name (i := 8) sc.nd rfl (by first | exact Or.inl rfl | exact Or.inr rfl)) pgs_nil)))) (fun _ _ _ _ _ => pts_nil) (fun _ _ _ _ _ => (pe_tup (pa_cons (pe_callTy call_uList (by rfl) m_list (by decide +kernel) (pa_cons (pv 7) pa_nil)) (pa_cons (pe_callTy call_uList (by rfl) m_list (by decide +kernel) (pa_cons (pv 8) pa_nil)) pa_nil)))))))
      (pss_one (ps_expr (pe_bm PySem.F.plainAttrs_list PySem.F.slot_list_append PySem.F.type_list_append mt_append (pv 1) (pa_cons (pe_tup (pa_cons (pe_fld (pv 2) rfl) (pa_cons (pv 3) (pa_cons (pv 6) pa_nil)))) pa_nil)))))))
      (pss_one (ps_ret (pe_tup (pa_cons (pv 1) (pa_cons (pe_callTy call_uList (by rfl) m_list (by decide +kernel) (pa_cons (pe_fld (pv 0) rfl) pa_nil)) pa_nil)))))))
abbrev s_law : Stmt := (topS 42)
theorem sc_law : FnScope N_law ["_law_script"] (defScope s_law) := ⟨rfl, rfl, rfl, by decide +kernel, rfl, by decide +kernel, by decide +kernel⟩
theorem ok_law (C_Record : ClsF K mg c "Record" ["name", "vector", "fields", "words"]) (C_Lists : ClsF K mg c "Lists" ["centres", "rounds", "cells", "size"]) (C_Schema : ClsF K mg c "Schema" ["size", "width", "measure", "fields"]) (D_law_next : Dfn P w K mg base 2 "_law_next" ["_law_state", "_law_many"] (sp_law_next K)) (D_law_rows_of : Dfn P w K mg base 3 "_law_rows_of" ["_law_state", "_law_size", "_law_spread"] (sp_law_rows_of K c)) (K_Record_init_2 : MkrK CX0 P w K mg base 1 (c.cls "Record") ["self", "name", "vector", "fields", "words"] (sp_Record_init K c) 2 [] [.e, .e] [(false, 0), (false, 1)]) (K_Lists_init_1_rounds_cells_size : MkrK (L2.CX P w) P w K mg base 2 (c.cls "Lists") ["self", "centres", "rounds", "cells", "size"] (sp_Lists_init K c) 1 ["rounds", "cells", "size"] [] [(true, 0), (true, 1), (true, 2)]) (M_Lists_layout : Mth P w K mg base 7 (c.cls "Lists") "layout" ["self", "schema", "records"] (sp_Lists_layout K c)) (K_Schema_init_1 : MkrK (L2.CX P w) P w K mg base 3 (c.cls "Schema") ["self", "size", "width", "measure", "fields"] (sp_Schema_init K c) 1 [] [(.v (.str "small")), (.v (.str "square")), .e] [(false, 0), (false, 1), (false, 2)]) (D_train : Dfn P w K mg base 4 "train" ["vectors", "number", "rounds"] (sp_train K c)) (D_law_cells : Dfn P w K mg base 2 "_law_cells" ["_law_centres", "_law_k", "_law_cells_here"] (sp_law_cells K c)) (D_law_nearest : Dfn P w K mg base 2 "_law_nearest" ["_law_centres", "_law_vector"] (sp_law_nearest K c)) (D_law_shown : Dfn P w K mg base 1 "_law_shown" ["_law_layout"] (sp_law_shown K c)) (m_list : mg "list" = none) (m_tuple : mg "tuple" = none) (m_len : mg "len" = none) (m_range : mg "range" = none) (m_int : mg "int" = none) {f : Addr} {fd : FuncData} (F : Fun K "law" "law" s_law f fd) : FnOk P w K mg base CX0 8 f fd ["_law_script"] (sp_lawT K c) := by
  have sc := sc_law
  refine F.ok sc_law (fun vs H Q E h => ((w_law (c := c)) vs H Q E h).1) (fun cdv A outer s H vs Q E hr h => ⟨T_law K c, ?_, ((w_law (c := c)) vs H Q E h).2⟩)
  exact (pss_cons (ps_set (i := 1) sc.nd rfl (by first | exact Or.inl rfl | exact Or.inr rfl) (pe_lst (pa_cons (pe_callTy call_uList (by rfl) m_list (by decide +kernel) (pa_cons (pv 0) pa_nil)) (pa_cons pe_int (pa_cons pe_int pa_nil)))))
      (pss_cons (ps_set (i := 2) sc.nd rfl (by first | exact Or.inl rfl | exact Or.inr rfl) (pe_op op_uAdd pe_int (z_call D_law_next (hr.mono (by decide)) (by rfl) (pa_cons (pv 1) (pa_cons pe_int pa_nil)))))
      (pss_cons (ps_set (i := 3) sc.nd rfl (by first | exact Or.inl rfl | exact Or.inr rfl) (z_call D_law_rows_of (hr.mono (by decide)) (by rfl) (pa_cons (pv 1) (pa_cons (pv 2) (pa_cons (pe_ix ix_uIx (pe_lst (pa_cons pe_int (pa_cons pe_int (pa_cons pe_int pa_nil)))) (z_call D_law_next (hr.mono (by decide)) (by rfl) (pa_cons (pv 1) (pa_cons pe_int pa_nil))) (fun _ _ => rfl)) pa_nil)))))
      (pss_cons (ps_set (i := 4) sc.nd rfl (by first | exact Or.inl rfl | exact Or.inr rfl) (pe_op op_uAdd pe_int (z_call D_law_next (hr.mono (by decide)) (by rfl) (pa_cons (pv 1) (pa_cons pe_int pa_nil)))))
      (pss_cons (ps_set (i := 5) sc.nd rfl (by first | exact Or.inl rfl | exact Or.inr rfl) (z_call D_law_next (hr.mono (by decide)) (by rfl) (pa_cons (pv 1) (pa_cons pe_int pa_nil))))
      (pss_cons (ps_set (i := 6) sc.nd rfl (by first | exact Or.inl rfl | exact Or.inr rfl) (z_call D_law_next (hr.mono (by decide)) (by rfl) (pa_cons (pv 1) (pa_cons pe_int pa_nil))))
      (pss_cons (ps_set (i := 7) sc.nd rfl (by first | exact Or.inl rfl | exact Or.inr rfl) (pe_op op_uAdd pe_int (z_call D_law_next (hr.mono (by decide)) (by rfl) (pa_cons (pv 1) (pa_cons pe_int pa_nil)))))
      (pss_cons (by first | exact (ps_setLc (i := 8) (own := [("_law_name", 9), ("_law_vector", 10)]) (g := (gTup K 2 (gCons (gName 9) (gCons (gName 10) gNil)))) (tt := tYes) rfl sc.nd rfl rfl (sw_true rfl rfl rfl (by decide +kernel)) (pi_sq (pv 3)) (blkOk_by (N := N_law) (sc := defScope s_law) (by decide +kernel)) (fun _ _ _ _ _ => (pg_tup rfl (pgs_cons (pg_name (i := 9) sc.nd rfl (by first | exact Or.inl rfl | exact Or.inr rfl)) (pgs_cons (pg_name (i := 10) sc.nd rfl (by first | exact Or.inl rfl | exact Or.inr rfl)) pgs_nil)))) (fun _ _ _ _ _ => pts_nil) (fun _ _ _ _ _ => (z_makeK C_Record K_Record_init_2 pass00 (hr.mono (by decide)) (by rfl) (pa_cons (pv 9) (pa_cons (pe_callTy call_uList (by rfl) m_list (by decide +kernel) (pa_cons (pv 10) pa_nil)) pa_nil)) pk_nil))) | exact (ps_set (i := 8) sc.nd rfl (Or.inr rfl) (pe_lc (own := [("_law_name", 9), ("_law_vector", 10)]) (g := (gTup K 2 (gCons (gName 9) (gCons (gName 10) gNil)))) (tt := tYes) rfl sc.nd (pi_sq (pv 3)) (blkOk_by (N := N_law) (sc := defScope s_law) (by decide +kernel)) (fun _ _ _ _ _ => (pg_tup rfl (pgs_cons (pg_name (i := 9) sc.nd rfl (by first | exact Or.inl rfl | exact Or.inr rfl)) (pgs_cons (pg_name (i := 10) sc.nd rfl (by first | exact Or.inl rfl | exact Or.inr rfl)) pgs_nil)))) (fun _ _ _ _ _ => pts_nil) (fun _ _ _ _ _ => (z_makeK C_Record K_Record_init_2 pass00 (hr.mono (by decide)) (by rfl) (pa_cons (pv 9) (pa_cons (pe_callTy call_uList (by rfl) m_list (by decide +kernel) (pa_cons (pv 10) pa_nil)) pa_nil)) pk_nil)))))
      (pss_cons (ps_set (i := 11) sc.nd rfl (by first | exact Or.inl rfl | exact Or.inr rfl) (z_meth (z_makeK C_Lists K_Lists_init_1_rounds_cells_size passF (hr.mono (by decide)) (by rfl) (pa_cons (pv 4) pa_nil) (pk_cons (pv 5) (pk_cons (pv 6) (pk_cons (pv 7) pk_nil)))) C_Lists M_Lists_layout (hr.mono (by decide)) (pa_cons (z_makeK C_Schema K_Schema_init_1 passF (hr.mono (by decide)) (by rfl) (pa_cons (pv 2) pa_nil) pk_nil) (pa_cons (pe_callTy call_uList (by rfl) m_list (by decide +kernel) (pa_cons (pv 8) pa_nil)) pa_nil))))
      (pss_cons (ps_set (i := 12) sc.nd rfl (by first | exact Or.inl rfl | exact Or.inr rfl) (z_call D_train (hr.mono (by decide)) (by rfl) (pa_cons (pe_lc (own := [("_law_name", 9), ("_law_vector", 10)]) (g := (gTup K 2 (gCons (gName 9) (gCons (gName 10) gNil)))) (tt := tYes) rfl sc.nd (pi_sq (pv 3)) (blkOk_by (N := N_law) (sc := defScope s_law) (by decide +kernel)) (fun _ _ _ _ _ => (pg_tup rfl (pgs_cons (pg_name (i := 9) sc.nd rfl (by first | exact Or.inl rfl | exact Or.inr rfl)) (pgs_cons (pg_name (i := 10) sc.nd rfl (by first | exact Or.inl rfl | exact Or.inr rfl)) pgs_nil)))) (fun _ _ _ _ _ => pts_nil) (fun _ _ _ _ _ => (pe_callTy call_uTuple (by rfl) m_tuple (by decide +kernel) (pa_cons (pv 10) pa_nil)))) (pa_cons (pv 4) (pa_cons (pv 5) pa_nil)))))
      (pss_cons (by first | exact (ps_setLc (i := 13) (own := [("_law_k", 14)]) (g := (gName 14)) (tt := tYes) rfl sc.nd rfl rfl (sw_true rfl rfl rfl (by decide +kernel)) (pi_range1 (by rfl) m_range (pa_cons (pe_callB call_uLen (by rfl) m_len (by decide +kernel) (pa_cons (pv 12) pa_nil)) pa_nil)) (blkOk_by (N := N_law) (sc := defScope s_law) (by decide +kernel)) (fun _ _ _ _ _ => (pg_name (i := 14) sc.nd rfl (by first | exact Or.inl rfl | exact Or.inr rfl))) (fun _ _ _ _ _ => pts_nil) (fun _ _ _ _ _ => (pe_tup (pa_cons pe_non (pa_cons (pe_lst (pa_cons (pe_tup (pa_cons pe_int (pa_cons (pe_callTy call_uList (by rfl) m_list (by decide +kernel) (pa_cons (pe_ix ix_uIx (pv 12) (pv 14) (fun _ _ => rfl)) pa_nil)) pa_nil))) pa_nil)) (pa_cons (z_call D_law_cells (hr.mono (by decide)) (by rfl) (pa_cons (pv 12) (pa_cons (pv 14) (pa_cons (pv 6) pa_nil)))) pa_nil)))))) | exact (ps_set (i := 13) sc.nd rfl (Or.inr rfl) (pe_lc (own := [("_law_k", 14)]) (g := (gName 14)) (tt := tYes) rfl sc.nd (pi_range1 (by rfl) m_range (pa_cons (pe_callB call_uLen (by rfl) m_len (by decide +kernel) (pa_cons (pv 12) pa_nil)) pa_nil)) (blkOk_by (N := N_law) (sc := defScope s_law) (by decide +kernel)) (fun _ _ _ _ _ => (pg_name (i := 14) sc.nd rfl (by first | exact Or.inl rfl | exact Or.inr rfl))) (fun _ _ _ _ _ => pts_nil) (fun _ _ _ _ _ => (pe_tup (pa_cons pe_non (pa_cons (pe_lst (pa_cons (pe_tup (pa_cons pe_int (pa_cons (pe_callTy call_uList (by rfl) m_list (by decide +kernel) (pa_cons (pe_ix ix_uIx (pv 12) (pv 14) (fun _ _ => rfl)) pa_nil)) pa_nil))) pa_nil)) (pa_cons (z_call D_law_cells (hr.mono (by decide)) (by rfl) (pa_cons (pv 12) (pa_cons (pv 14) (pa_cons (pv 6) pa_nil)))) pa_nil))))))))
      (pss_cons (by first | exact (ps_setLc (i := 15) (own := [("_law_row_here", 16)]) (g := (gName 16)) (tt := tYes) rfl sc.nd rfl rfl (sw_true rfl rfl rfl (by decide +kernel)) (pi_sq (pv 3)) (blkOk_by (N := N_law) (sc := defScope s_law) (by decide +kernel)) (fun _ _ _ _ _ => (pg_name (i := 16) sc.nd rfl (by first | exact Or.inl rfl | exact Or.inr rfl))) (fun _ _ _ _ _ => pts_nil) (fun _ _ _ _ _ => pe_int)) | exact (ps_set (i := 15) sc.nd rfl (Or.inr rfl) (pe_lc (own := [("_law_row_here", 16)]) (g := (gName 16)) (tt := tYes) rfl sc.nd (pi_sq (pv 3)) (blkOk_by (N := N_law) (sc := defScope s_law) (by decide +kernel)) (fun _ _ _ _ _ => (pg_name (i := 16) sc.nd rfl (by first | exact Or.inl rfl | exact Or.inr rfl))) (fun _ _ _ _ _ => pts_nil) (fun _ _ _ _ _ => pe_int))))
      (pss_cons (ps_for PassesOwn.never rfl (pi_range1 (by rfl) m_range (pa_cons (pe_callB call_uLen (by rfl) m_len (by decide +kernel) (pa_cons (pv 12) pa_nil)) pa_nil)) (pg_name (i := 14) sc.nd rfl (by first | exact Or.inl rfl | exact Or.inr rfl)) (pss_cons (ps_set (i := 17) sc.nd rfl (by first | exact Or.inl rfl | exact Or.inr rfl) pe_int)
      (pss_one (ps_for PassesOwn.never rfl (pi_range1 (by rfl) m_range (pa_cons (pe_callB call_uLen (by rfl) m_len (by decide +kernel) (pa_cons (pv 3) pa_nil)) pa_nil)) (pg_name (i := 18) sc.nd rfl (by first | exact Or.inl rfl | exact Or.inr rfl)) (pss_one (ps_if (pt_cmpR (op_uEq hr.units) (z_call D_law_nearest (hr.mono (by decide)) (by rfl) (pa_cons (pv 12) (pa_cons (pe_ix ix_uIx (pe_ix ix_uIx (pv 3) (pv 18) (fun _ _ => rfl)) pe_int (fun _ _ => rfl)) pa_nil))) (pv 14) (nomark _)) (pss_cut (ps_if (pt_cmpR (op_uEq hr.units) (pe_op op_uMod (pe_callTy call_uInt (by rfl) m_int (by decide +kernel) (pa_cons (pv 17) pa_nil)) (pv 7)) pe_int (nomark _)) (pss_one (ps_expr (pe_bm PySem.F.plainAttrs_list PySem.F.slot_list_append PySem.F.type_list_append mt_append (pv 13) (pa_cons (pe_tup (pa_cons (pv 14) (pa_cons (pe_lst pa_nil) (pa_cons (pe_lst pa_nil) pa_nil)))) pa_nil)))) pss_nil)
      (pss_cons (ps_asg (pe_op op_uSub (pe_callB call_uLen (by rfl) m_len (by decide +kernel) (pa_cons (pv 13) pa_nil)) pe_int) (pg_sub (pv 15) (pv 18) set_list))
      (pss_one (ps_set (i := 17) sc.nd rfl (by first | exact Or.inl rfl | exact Or.inr rfl) (pe_op op_uAdd (pv 17) pe_int))))) pss_nil))))))
      (pss_one (ps_ret (pe_cmpR (op_uEq hr.units) (z_call D_law_shown (hr.mono (by decide)) (by rfl) (pa_cons (pv 11) pa_nil)) (pe_tup (pa_cons (pv 13) (pa_cons (pv 15) pa_nil))) (nomark _)))))))))))))))))
end
def cEnv (C0 C1 C2 C3 C4 C5 C6 TT11 : Addr) : CEnv := ⟨fun x => (([("InvalidRule", C0), ("Sketch", C1), ("Layout", C2), ("InvalidSchema", C3), ("Record", C4), ("Lists", C5), ("Schema", C6)] : List (Str × Addr)).lookup x).getD 0, fun y => y ∈ ([] : List Str), fun y => y ∈ (["InvalidRule", "Sketch", "Layout", "InvalidSchema", "Record", "Lists", "Schema"] : List Str), [(TT11, (("neighbours" : Str) ++ ".<locals>.") ++ "<lambda>")]⟩
theorem all_mk {l : PySem.W.OpenLaw} {w : World} {K : PySem.W.Frag} {h : Heap} {mg : Str → Option Value} {fa f0 f1 f2 f3 f4 f5 f6 f7 f8 f9 f10 f11 f12 f13 f14 f15 f16 f17 f18 f19 f20 f21 f22 f23 C0 C1 C2 C3 C4 C5 C6  : Addr} (X : K.In h) (G : h.Ns mainGlobals mg) (hfa : mg "law" = some (.ref fa))
    {tg0_0 tg0_1 tg0_2 tg0_3 tg0_4 tg0_5 tg0_6 tg0_7 tg1_0 tg1_1 tg1_2 tx1_0_0 tx1_0_1 tx1_1_0 tx1_1_1 tx1_2_0 tx1_2_1 tg2_0 tg2_1 tg2_2 tg3_0 tg3_1 tg3_2 tt5_rounds tt5_cells tt5_size tt18_width tt18_measure : Tok}
    {kt1 : Addr} {ktn1 : Nat}
    {kh1_0 kh1_1 kh1_2 : Int}
    {kv1_0 kv1_1 kv1_2 : Addr} {kvd1_0 kvd1_1 kvd1_2 : Option Addr} {kvn1_0 kvn1_1 kvn1_2 : Nat} {kvs1_0 kvs1_1 kvs1_2 : Array (Option Value)}
    {kt0 kt2 kt3 : Addr} {ktd0 ktd2 ktd3 : Option Addr} {ktn0 ktn2 ktn3 : Nat} {kts0 kts2 kts3 : Array (Option Value)}
    {kD3 kD5 kD12 kD18 kT3_fields kT3_words kT12_centres kT12_cells kT18_fields : Addr}
    {ddkT3_fields ddkT3_words ddkT12_centres ddkT12_cells ddkT18_fields : Option Addr} {nnkT3_fields nnkT3_words nnkT12_centres nnkT12_cells nnkT18_fields : Nat} {sskT3_fields sskT3_words sskT12_centres sskT12_cells sskT18_fields : Array (Option Value)}
    {od0 an0 od1 an1 od2 an2 od3 an3 od4 an4 od5 an5 od6 an6 od7 an7 od8 an8 od9 an9 od10 an10 od11 an11 od12 an12 od13 an13 od14 an14 od15 an15 od16 an16 od17 an17 od18 an18 od19 an19 od20 an20 od21 an21 od22 an22 od23 an23 : Option Addr} {sl0 sl1 sl2 sl3 sl4 sl5 sl6 sl7 sl8 sl9 sl10 sl11 sl12 sl13 sl14 sl15 sl16 sl17 sl18 sl19 sl20 sl21 sl22 sl23 : Array (Option Value)} {oc0 kV0 dc0 pm0 cd0 ct0 oc1 kV1 dc1 pm1 cd1 ct1 oc2 kV2 dc2 pm2 cd2 ct2 oc3 dc3 pm3 cd3 ct3 oc4 kV4 dc4 pm4 cd4 ct4 oc5 dc5 pm5 cd5 ct5 oc6 kV6 dc6 pm6 cd6 ct6 oc7 kV7 dc7 pm7 cd7 ct7 oc8 kV8 dc8 pm8 cd8 ct8 oc9 kV9 dc9 pm9 cd9 ct9 oc10 kV10 dc10 pm10 cd10 ct10 oc11 kV11 dc11 pm11 ct11 oc12 dc12 pm12 cd12 ct12 oc13 kV13 dc13 pm13 cd13 ct13 oc14 kV14 dc14 pm14 cd14 ct14 oc15 kV15 dc15 pm15 cd15 ct15 oc16 kV16 dc16 pm16 cd16 ct16 oc17 kV17 dc17 pm17 cd17 ct17 oc18 dc18 pm18 cd18 ct18 oc19 kV19 dc19 pm19 cd19 ct19 oc20 kV20 dc20 pm20 cd20 ct20 oc21 kV21 dc21 pm21 cd21 ct21 oc22 kV22 dc22 pm22 cd22 ct22 oc23 kV23 dc23 pm23 cd23 ct23 : Value}
    {cc11 TT11 : Addr} {dc2_11 : Option Addr} {vs11 : Array Value} {ss2_11 : Array (Option Value)}
    (b0 : PySem.W.nsIn K mainGlobals "InvalidRule" = some (some (.ref C0)))
    (b1 : PySem.W.nsIn K mainGlobals "Sketch" = some (some (.ref C1)))
    (b2 : PySem.W.nsIn K mainGlobals "Layout" = some (some (.ref C2)))
    (b3 : PySem.W.nsIn K mainGlobals "InvalidSchema" = some (some (.ref C3)))
    (b4 : PySem.W.nsIn K mainGlobals "Record" = some (some (.ref C4)))
    (b5 : PySem.W.nsIn K mainGlobals "Lists" = some (some (.ref C5)))
    (b6 : PySem.W.nsIn K mainGlobals "Schema" = some (some (.ref C6)))
    (xq0 : PySem.W.excIn K C0 [.type "ValueError", .type "Exception", .type "BaseException", .type "object"] "ValueError.__new__" = true)
    (kc0 : PySem.W.keepIn K (.ref C0) = true)
    (xb0 : PySem.W.subIn K (.ref C0) (.type "BaseException") = some true)
    (xt0 : PySem.W.typeIn K (.ref C0) = some (.type "type"))
    (pg1 : PySem.W.plainGet K C1 Str.empty = true)
    (hd1 : PySem.W.hasDictIn K C1 = true)
    (po1 : PySem.W.plainOver K C1 = true)
    (sa1 : PySem.W.findIn K (.ref C1) "__setattr__" = some (some (.builtin "object.__setattr__")))
    (ha1 : PySem.W.findIn K (.ref C1) "__class__" = some (some (.builtin "object.__class__")))
    (hm1 : PySem.W.mroIn K C1 (.type "object") = some true)
    (mk1 : PySem.W.makesIn K C1 = true)
    (kc1 : PySem.W.keepIn K (.ref C1) = true)
    (n1_0 : PySem.W.findIn K (.ref C1) "parent" = some none)
    (n1_1 : PySem.W.findIn K (.ref C1) "centres" = some none)
    (n1_2 : PySem.W.findIn K (.ref C1) "cells" = some none)
    (pg2 : PySem.W.plainGet K C2 Str.empty = true)
    (hd2 : PySem.W.hasDictIn K C2 = true)
    (po2 : PySem.W.plainOver K C2 = true)
    (sa2 : PySem.W.findIn K (.ref C2) "__setattr__" = some (some (.builtin "object.__setattr__")))
    (ha2 : PySem.W.findIn K (.ref C2) "__class__" = some (some (.builtin "object.__class__")))
    (hm2 : PySem.W.mroIn K C2 (.type "object") = some true)
    (mk2 : PySem.W.makesIn K C2 = true)
    (kc2 : PySem.W.keepIn K (.ref C2) = true)
    (n2_0 : PySem.W.findIn K (.ref C2) "sketches" = some none)
    (n2_1 : PySem.W.findIn K (.ref C2) "leaves" = some none)
    (xq3 : PySem.W.excIn K C3 [.type "ValueError", .type "Exception", .type "BaseException", .type "object"] "ValueError.__new__" = true)
    (kc3 : PySem.W.keepIn K (.ref C3) = true)
    (xb3 : PySem.W.subIn K (.ref C3) (.type "BaseException") = some true)
    (xt3 : PySem.W.typeIn K (.ref C3) = some (.type "type"))
    (pg4 : PySem.W.plainGet K C4 Str.empty = true)
    (hd4 : PySem.W.hasDictIn K C4 = true)
    (po4 : PySem.W.plainOver K C4 = true)
    (sa4 : PySem.W.findIn K (.ref C4) "__setattr__" = some (some (.builtin "object.__setattr__")))
    (ha4 : PySem.W.findIn K (.ref C4) "__class__" = some (some (.builtin "object.__class__")))
    (hm4 : PySem.W.mroIn K C4 (.type "object") = some true)
    (mk4 : PySem.W.makesIn K C4 = true)
    (kc4 : PySem.W.keepIn K (.ref C4) = true)
    (n4_0 : PySem.W.findIn K (.ref C4) "name" = some none)
    (n4_1 : PySem.W.findIn K (.ref C4) "vector" = some none)
    (n4_2 : PySem.W.findIn K (.ref C4) "fields" = some none)
    (n4_3 : PySem.W.findIn K (.ref C4) "words" = some none)
    (pg5 : PySem.W.plainGet K C5 Str.empty = true)
    (hd5 : PySem.W.hasDictIn K C5 = true)
    (po5 : PySem.W.plainOver K C5 = true)
    (sa5 : PySem.W.findIn K (.ref C5) "__setattr__" = some (some (.builtin "object.__setattr__")))
    (ha5 : PySem.W.findIn K (.ref C5) "__class__" = some (some (.builtin "object.__class__")))
    (hm5 : PySem.W.mroIn K C5 (.type "object") = some true)
    (mk5 : PySem.W.makesIn K C5 = true)
    (kc5 : PySem.W.keepIn K (.ref C5) = true)
    (n5_0 : PySem.W.findIn K (.ref C5) "centres" = some none)
    (n5_1 : PySem.W.findIn K (.ref C5) "rounds" = some none)
    (n5_2 : PySem.W.findIn K (.ref C5) "cells" = some none)
    (n5_3 : PySem.W.findIn K (.ref C5) "size" = some none)
    (pg6 : PySem.W.plainGet K C6 Str.empty = true)
    (hd6 : PySem.W.hasDictIn K C6 = true)
    (po6 : PySem.W.plainOver K C6 = true)
    (sa6 : PySem.W.findIn K (.ref C6) "__setattr__" = some (some (.builtin "object.__setattr__")))
    (ha6 : PySem.W.findIn K (.ref C6) "__class__" = some (some (.builtin "object.__class__")))
    (hm6 : PySem.W.mroIn K C6 (.type "object") = some true)
    (mk6 : PySem.W.makesIn K C6 = true)
    (kc6 : PySem.W.keepIn K (.ref C6) = true)
    (n6_0 : PySem.W.findIn K (.ref C6) "size" = some none)
    (n6_1 : PySem.W.findIn K (.ref C6) "width" = some none)
    (n6_2 : PySem.W.findIn K (.ref C6) "measure" = some none)
    (n6_3 : PySem.W.findIn K (.ref C6) "fields" = some none)
    (hn : PySem.W.specialIn K (.builtin "object.__class__") "__get__" = some (some (.builtin "getset_descriptor.__get__")))
    (htk : PySem.W.takesIn K (.builtin "object.__class__") = some true)
    (nd : ([C0, C1, C2, C3, C4, C5, C6] : List Addr).Nodup)
    (a0 : PySem.W.nsIn K mainGlobals "_law_row" = some (some (.ref f0)))
    (l0 : K.lookup f0 = some ⟨oc0, od0, .func (PySem.W.fnOf "_law_row" "_law_row" (defArgs s_law_row) (defBody s_law_row) (defScope s_law_row) .none kV0 dc0 pm0 an0 cd0 ct0), sl0⟩)
    (c0 : PySem.W.codeIn K cd0 "_law_row" = true)
    (k0 : PySem.W.keepIn K (.ref f0) = true)
    (a1 : PySem.W.nsIn K mainGlobals "_law_next" = some (some (.ref f1)))
    (l1 : K.lookup f1 = some ⟨oc1, od1, .func (PySem.W.fnOf "_law_next" "_law_next" (defArgs s_law_next) (defBody s_law_next) (defScope s_law_next) .none kV1 dc1 pm1 an1 cd1 ct1), sl1⟩)
    (c1 : PySem.W.codeIn K cd1 "_law_next" = true)
    (k1 : PySem.W.keepIn K (.ref f1) = true)
    (a2 : PySem.W.nsIn K mainGlobals "_law_rows_of" = some (some (.ref f2)))
    (l2 : K.lookup f2 = some ⟨oc2, od2, .func (PySem.W.fnOf "_law_rows_of" "_law_rows_of" (defArgs s_law_rows_of) (defBody s_law_rows_of) (defScope s_law_rows_of) .none kV2 dc2 pm2 an2 cd2 ct2), sl2⟩)
    (c2 : PySem.W.codeIn K cd2 "_law_rows_of" = true)
    (k2 : PySem.W.keepIn K (.ref f2) = true)
    (a3 : PySem.W.findIn K (.ref C4) "__init__" = some (some (.ref f3)))
    (i3 : PySem.W.isFn K (.ref f3) = true)
    (l3 : K.lookup f3 = some ⟨oc3, od3, .func (PySem.W.fnOf "__init__" "Record.__init__" (defArgs s_Record_init) (defBody s_Record_init) (defScope s_Record_init) .none (.ref kD3) dc3 pm3 an3 cd3 ct3), sl3⟩)
    (c3 : PySem.W.codeIn K cd3 "Record.__init__" = true)
    (k3 : PySem.W.keepIn K (.ref f3) = true)
    (a4 : PySem.W.nsIn K mainGlobals "check_rule" = some (some (.ref f4)))
    (l4 : K.lookup f4 = some ⟨oc4, od4, .func (PySem.W.fnOf "check_rule" "check_rule" (defArgs s_check_rule) (defBody s_check_rule) (defScope s_check_rule) .none kV4 dc4 pm4 an4 cd4 ct4), sl4⟩)
    (c4 : PySem.W.codeIn K cd4 "check_rule" = true)
    (k4 : PySem.W.keepIn K (.ref f4) = true)
    (a5 : PySem.W.findIn K (.ref C5) "__init__" = some (some (.ref f5)))
    (i5 : PySem.W.isFn K (.ref f5) = true)
    (l5 : K.lookup f5 = some ⟨oc5, od5, .func (PySem.W.fnOf "__init__" "Lists.__init__" (defArgs s_Lists_init) (defBody s_Lists_init) (defScope s_Lists_init) .none (.ref kD5) dc5 pm5 an5 cd5 ct5), sl5⟩)
    (c5 : PySem.W.codeIn K cd5 "Lists.__init__" = true)
    (k5 : PySem.W.keepIn K (.ref f5) = true)
    (a6 : PySem.W.nsIn K mainGlobals "distance" = some (some (.ref f6)))
    (l6 : K.lookup f6 = some ⟨oc6, od6, .func (PySem.W.fnOf "distance" "distance" (defArgs s_distance) (defBody s_distance) (defScope s_distance) .none kV6 dc6 pm6 an6 cd6 ct6), sl6⟩)
    (c6 : PySem.W.codeIn K cd6 "distance" = true)
    (k6 : PySem.W.keepIn K (.ref f6) = true)
    (a7 : PySem.W.nsIn K mainGlobals "nearest" = some (some (.ref f7)))
    (l7 : K.lookup f7 = some ⟨oc7, od7, .func (PySem.W.fnOf "nearest" "nearest" (defArgs s_nearest) (defBody s_nearest) (defScope s_nearest) .none kV7 dc7 pm7 an7 cd7 ct7), sl7⟩)
    (c7 : PySem.W.codeIn K cd7 "nearest" = true)
    (k7 : PySem.W.keepIn K (.ref f7) = true)
    (a8 : PySem.W.nsIn K mainGlobals "mean" = some (some (.ref f8)))
    (l8 : K.lookup f8 = some ⟨oc8, od8, .func (PySem.W.fnOf "mean" "mean" (defArgs s_mean) (defBody s_mean) (defScope s_mean) .none kV8 dc8 pm8 an8 cd8 ct8), sl8⟩)
    (c8 : PySem.W.codeIn K cd8 "mean" = true)
    (k8 : PySem.W.keepIn K (.ref f8) = true)
    (a9 : PySem.W.nsIn K mainGlobals "move" = some (some (.ref f9)))
    (l9 : K.lookup f9 = some ⟨oc9, od9, .func (PySem.W.fnOf "move" "move" (defArgs s_move) (defBody s_move) (defScope s_move) .none kV9 dc9 pm9 an9 cd9 ct9), sl9⟩)
    (c9 : PySem.W.codeIn K cd9 "move" = true)
    (k9 : PySem.W.keepIn K (.ref f9) = true)
    (a10 : PySem.W.nsIn K mainGlobals "train" = some (some (.ref f10)))
    (l10 : K.lookup f10 = some ⟨oc10, od10, .func (PySem.W.fnOf "train" "train" (defArgs s_train) (defBody s_train) (defScope s_train) .none kV10 dc10 pm10 an10 cd10 ct10), sl10⟩)
    (c10 : PySem.W.codeIn K cd10 "train" = true)
    (k10 : PySem.W.keepIn K (.ref f10) = true)
    (a11 : PySem.W.nsIn K mainGlobals "neighbours" = some (some (.ref f11)))
    (l11 : K.lookup f11 = some ⟨oc11, od11, .func (PySem.W.fnOf "neighbours" "neighbours" (defArgs s_neighbours) (defBody s_neighbours) (defScope s_neighbours) .none kV11 dc11 pm11 an11 (.ref cc11) ct11), sl11⟩)
    (c11 : PySem.W.codeIn K (.ref cc11) "neighbours" = true)
    (k11 : PySem.W.keepIn K (.ref f11) = true)
    (a12 : PySem.W.findIn K (.ref C1) "__init__" = some (some (.ref f12)))
    (i12 : PySem.W.isFn K (.ref f12) = true)
    (l12 : K.lookup f12 = some ⟨oc12, od12, .func (PySem.W.fnOf "__init__" "Sketch.__init__" (defArgs s_Sketch_init) (defBody s_Sketch_init) (defScope s_Sketch_init) .none (.ref kD12) dc12 pm12 an12 cd12 ct12), sl12⟩)
    (c12 : PySem.W.codeIn K cd12 "Sketch.__init__" = true)
    (k12 : PySem.W.keepIn K (.ref f12) = true)
    (a13 : PySem.W.findIn K (.ref C2) "__init__" = some (some (.ref f13)))
    (i13 : PySem.W.isFn K (.ref f13) = true)
    (l13 : K.lookup f13 = some ⟨oc13, od13, .func (PySem.W.fnOf "__init__" "Layout.__init__" (defArgs s_Layout_init) (defBody s_Layout_init) (defScope s_Layout_init) .none kV13 dc13 pm13 an13 cd13 ct13), sl13⟩)
    (c13 : PySem.W.codeIn K cd13 "Layout.__init__" = true)
    (k13 : PySem.W.keepIn K (.ref f13) = true)
    (a14 : PySem.W.findIn K (.ref C5) "layout" = some (some (.ref f14)))
    (i14 : PySem.W.isFn K (.ref f14) = true)
    (l14 : K.lookup f14 = some ⟨oc14, od14, .func (PySem.W.fnOf "layout" "Lists.layout" (defArgs s_Lists_layout) (defBody s_Lists_layout) (defScope s_Lists_layout) .none kV14 dc14 pm14 an14 cd14 ct14), sl14⟩)
    (c14 : PySem.W.codeIn K cd14 "Lists.layout" = true)
    (k14 : PySem.W.keepIn K (.ref f14) = true)
    (a15 : PySem.W.nsIn K mainGlobals "is_letter" = some (some (.ref f15)))
    (l15 : K.lookup f15 = some ⟨oc15, od15, .func (PySem.W.fnOf "is_letter" "is_letter" (defArgs s_is_letter) (defBody s_is_letter) (defScope s_is_letter) .none kV15 dc15 pm15 an15 cd15 ct15), sl15⟩)
    (c15 : PySem.W.codeIn K cd15 "is_letter" = true)
    (k15 : PySem.W.keepIn K (.ref f15) = true)
    (a16 : PySem.W.nsIn K mainGlobals "is_digit" = some (some (.ref f16)))
    (l16 : K.lookup f16 = some ⟨oc16, od16, .func (PySem.W.fnOf "is_digit" "is_digit" (defArgs s_is_digit) (defBody s_is_digit) (defScope s_is_digit) .none kV16 dc16 pm16 an16 cd16 ct16), sl16⟩)
    (c16 : PySem.W.codeIn K cd16 "is_digit" = true)
    (k16 : PySem.W.keepIn K (.ref f16) = true)
    (a17 : PySem.W.nsIn K mainGlobals "is_field_name" = some (some (.ref f17)))
    (l17 : K.lookup f17 = some ⟨oc17, od17, .func (PySem.W.fnOf "is_field_name" "is_field_name" (defArgs s_is_field_name) (defBody s_is_field_name) (defScope s_is_field_name) .none kV17 dc17 pm17 an17 cd17 ct17), sl17⟩)
    (c17 : PySem.W.codeIn K cd17 "is_field_name" = true)
    (k17 : PySem.W.keepIn K (.ref f17) = true)
    (a18 : PySem.W.findIn K (.ref C6) "__init__" = some (some (.ref f18)))
    (i18 : PySem.W.isFn K (.ref f18) = true)
    (l18 : K.lookup f18 = some ⟨oc18, od18, .func (PySem.W.fnOf "__init__" "Schema.__init__" (defArgs s_Schema_init) (defBody s_Schema_init) (defScope s_Schema_init) .none (.ref kD18) dc18 pm18 an18 cd18 ct18), sl18⟩)
    (c18 : PySem.W.codeIn K cd18 "Schema.__init__" = true)
    (k18 : PySem.W.keepIn K (.ref f18) = true)
    (a19 : PySem.W.nsIn K mainGlobals "_law_distance" = some (some (.ref f19)))
    (l19 : K.lookup f19 = some ⟨oc19, od19, .func (PySem.W.fnOf "_law_distance" "_law_distance" (defArgs s_law_distance) (defBody s_law_distance) (defScope s_law_distance) .none kV19 dc19 pm19 an19 cd19 ct19), sl19⟩)
    (c19 : PySem.W.codeIn K cd19 "_law_distance" = true)
    (k19 : PySem.W.keepIn K (.ref f19) = true)
    (a20 : PySem.W.nsIn K mainGlobals "_law_cells" = some (some (.ref f20)))
    (l20 : K.lookup f20 = some ⟨oc20, od20, .func (PySem.W.fnOf "_law_cells" "_law_cells" (defArgs s_law_cells) (defBody s_law_cells) (defScope s_law_cells) .none kV20 dc20 pm20 an20 cd20 ct20), sl20⟩)
    (c20 : PySem.W.codeIn K cd20 "_law_cells" = true)
    (k20 : PySem.W.keepIn K (.ref f20) = true)
    (a21 : PySem.W.nsIn K mainGlobals "_law_nearest" = some (some (.ref f21)))
    (l21 : K.lookup f21 = some ⟨oc21, od21, .func (PySem.W.fnOf "_law_nearest" "_law_nearest" (defArgs s_law_nearest) (defBody s_law_nearest) (defScope s_law_nearest) .none kV21 dc21 pm21 an21 cd21 ct21), sl21⟩)
    (c21 : PySem.W.codeIn K cd21 "_law_nearest" = true)
    (k21 : PySem.W.keepIn K (.ref f21) = true)
    (a22 : PySem.W.nsIn K mainGlobals "_law_shown" = some (some (.ref f22)))
    (l22 : K.lookup f22 = some ⟨oc22, od22, .func (PySem.W.fnOf "_law_shown" "_law_shown" (defArgs s_law_shown) (defBody s_law_shown) (defScope s_law_shown) .none kV22 dc22 pm22 an22 cd22 ct22), sl22⟩)
    (c22 : PySem.W.codeIn K cd22 "_law_shown" = true)
    (k22 : PySem.W.keepIn K (.ref f22) = true)
    (a23 : PySem.W.nsIn K mainGlobals "law" = some (some (.ref f23)))
    (l23 : K.lookup f23 = some ⟨oc23, od23, .func (PySem.W.fnOf "law" "law" (defArgs s_law) (defBody s_law) (defScope s_law) .none kV23 dc23 pm23 an23 cd23 ct23), sl23⟩)
    (c23 : PySem.W.codeIn K cd23 "law" = true)
    (k23 : PySem.W.keepIn K (.ref f23) = true)
    (kd3_fields : PySem.W.nsIn K kD3 "fields" = some (some (.ref kT3_fields)))
    (kx3_fields : K.lookup kT3_fields = some ⟨.type "tuple", ddkT3_fields, .seq ([] : List Value).toArray nnkT3_fields, sskT3_fields⟩)
    (kd3_words : PySem.W.nsIn K kD3 "words" = some (some (.ref kT3_words)))
    (kx3_words : K.lookup kT3_words = some ⟨.type "tuple", ddkT3_words, .seq ([] : List Value).toArray nnkT3_words, sskT3_words⟩)
    (kd5_rounds : PySem.W.nsIn K kD5 "rounds" = some (some (.int 0 tt5_rounds)))
    (kd5_cells : PySem.W.nsIn K kD5 "cells" = some (some (.int 0 tt5_cells)))
    (kd5_size : PySem.W.nsIn K kD5 "size" = some (some (.int 1 tt5_size)))
    (kd12_centres : PySem.W.nsIn K kD12 "centres" = some (some (.ref kT12_centres)))
    (kx12_centres : K.lookup kT12_centres = some ⟨.type "tuple", ddkT12_centres, .seq ([] : List Value).toArray nnkT12_centres, sskT12_centres⟩)
    (kd12_cells : PySem.W.nsIn K kD12 "cells" = some (some (.ref kT12_cells)))
    (kx12_cells : K.lookup kT12_cells = some ⟨.type "tuple", ddkT12_cells, .seq ([] : List Value).toArray nnkT12_cells, sskT12_cells⟩)
    (kd18_width : PySem.W.nsIn K kD18 "width" = some (some (.str "small" tt18_width)))
    (kd18_measure : PySem.W.nsIn K kD18 "measure" = some (some (.str "square" tt18_measure)))
    (kd18_fields : PySem.W.nsIn K kD18 "fields" = some (some (.ref kT18_fields)))
    (kx18_fields : K.lookup kT18_fields = some ⟨.type "tuple", ddkT18_fields, .seq ([] : List Value).toArray nnkT18_fields, sskT18_fields⟩)
    (lc11 : K.lookup cc11 = some ⟨.type "code", dc2_11, .fields vs11, ss2_11⟩)
    (lt11 : (vs11[11]? : Option Value) = some (.ref TT11))
    (lb11 : ZL.codeTail vs11 cc11 TT11 = true)
    (ln11 : K.lookup TT11 = none)
    (le11 : h.get? TT11 = some { cls := .none, data := .fields #[] })
    (tnd : ([TT11] : List Addr).Nodup)
    (z0 : PySem.W.nsIn K mainGlobals "len" = some none)
    (z1 : PySem.W.nsIn K mainGlobals "int" = some none)
    (z2 : PySem.W.nsIn K mainGlobals "range" = some none)
    (z3 : PySem.W.nsIn K mainGlobals "str" = some none)
    (z4 : PySem.W.nsIn K mainGlobals "tuple" = some none)
    (z5 : PySem.W.nsIn K mainGlobals "zip" = some none)
    (z6 : PySem.W.nsIn K mainGlobals "sum" = some none)
    (z7 : PySem.W.nsIn K mainGlobals "enumerate" = some none)
    (z8 : PySem.W.nsIn K mainGlobals "min" = some none)
    (z9 : PySem.W.nsIn K mainGlobals "sorted" = some none)
    (z10 : PySem.W.nsIn K mainGlobals "list" = some none)
    (kg0 : PySem.W.nsIn K mainGlobals "WORDS" = some (some (.ref kt0)))
    (kl0 : K.lookup kt0 = some ⟨.type "tuple", ktd0, .seq ([.str "every" tg0_0, .str "has" tg0_1, .str "in" tg0_2, .str "and" tg0_3, .str "or" tg0_4, .str "not" tg0_5, .str "true" tg0_6, .str "false" tg0_7] : List Value).toArray ktn0, kts0⟩)
    (kg1 : PySem.W.nsIn K mainGlobals "RANGES" = some (some (.ref kt1)))
    (kl1 : K.lookup kt1 = some ⟨.type "dict", none, .dict ([⟨kh1_0, .str "bit" tg1_0, .ref kv1_0⟩, ⟨kh1_1, .str "small" tg1_1, .ref kv1_1⟩, ⟨kh1_2, .str "wide" tg1_2, .ref kv1_2⟩] : List DictEntry).toArray ktn1, #[]⟩)
    (kk1 : PySem.W.KeysLit w.params [⟨kh1_0, .str "bit" tg1_0, .ref kv1_0⟩, ⟨kh1_1, .str "small" tg1_1, .ref kv1_1⟩, ⟨kh1_2, .str "wide" tg1_2, .ref kv1_2⟩])
    (ko1 : (kt1 == sysModules) = false)
    (kw1_0 : K.lookup kv1_0 = some ⟨.type "tuple", kvd1_0, .seq ([.int 0 tx1_0_0, .int 1 tx1_0_1] : List Value).toArray kvn1_0, kvs1_0⟩)
    (kw1_1 : K.lookup kv1_1 = some ⟨.type "tuple", kvd1_1, .seq ([.int (-128) tx1_1_0, .int 127 tx1_1_1] : List Value).toArray kvn1_1, kvs1_1⟩)
    (kw1_2 : K.lookup kv1_2 = some ⟨.type "tuple", kvd1_2, .seq ([.int (-32768) tx1_2_0, .int 32767 tx1_2_1] : List Value).toArray kvn1_2, kvs1_2⟩)
    (kg2 : PySem.W.nsIn K mainGlobals "MEASURES" = some (some (.ref kt2)))
    (kl2 : K.lookup kt2 = some ⟨.type "tuple", ktd2, .seq ([.str "square" tg2_0, .str "dot" tg2_1, .str "bits" tg2_2] : List Value).toArray ktn2, kts2⟩)
    (kg3 : PySem.W.nsIn K mainGlobals "KINDS" = some (some (.ref kt3)))
    (kl3 : K.lookup kt3 = some ⟨.type "tuple", ktd3, .seq ([.str "integer" tg3_0, .str "text" tg3_1, .str "flag" tg3_2] : List Value).toArray ktn3, kts3⟩)
    : LamX.LawAtS l w K CX0 8 63 "_law_script" mg fa h := by
  have e := hfa.symm.trans (PySem.W.mg_of X G a23)
  cases e
  have m_len := PySem.W.mg_none_of X G z0
  have m_int := PySem.W.mg_none_of X G z1
  have m_range := PySem.W.mg_none_of X G z2
  have m_str := PySem.W.mg_none_of X G z3
  have m_tuple := PySem.W.mg_none_of X G z4
  have m_zip := PySem.W.mg_none_of X G z5
  have m_sum := PySem.W.mg_none_of X G z6
  have m_enumerate := PySem.W.mg_none_of X G z7
  have m_min := PySem.W.mg_none_of X G z8
  have m_sorted := PySem.W.mg_none_of X G z9
  have m_list := PySem.W.mg_none_of X G z10
  have g_WORDS : ∃ T, mg "WORDS" = some (.ref T) ∧ ∀ H, SqT K H T [.str "every", .str "has", .str "in", .str "and", .str "or", .str "not", .str "true", .str "false"] := ⟨_, PySem.W.mg_of X G kg0, sqT_lit kl0 (.cons ⟨_, rfl⟩ (.cons ⟨_, rfl⟩ (.cons ⟨_, rfl⟩ (.cons ⟨_, rfl⟩ (.cons ⟨_, rfl⟩ (.cons ⟨_, rfl⟩ (.cons ⟨_, rfl⟩ (.cons ⟨_, rfl⟩ .nil)))))))) (by decide)⟩
  have g_RANGES : KD K w mg "RANGES" [("bit", .t [.int 0, .int 1]), ("small", .t [.int (-128), .int 127]), ("wide", .t [.int (-32768), .int 32767])] := kd_of (PySem.W.mg_of X G kg1) kl1 kk1 ko1 (.cons ⟨⟨_, rfl⟩, ⟨.ref kv1_0, rfl, _, rfl, sqT_lit kw1_0 (.cons ⟨_, rfl⟩ (.cons ⟨_, rfl⟩ .nil)) (by decide)⟩⟩ (.cons ⟨⟨_, rfl⟩, ⟨.ref kv1_1, rfl, _, rfl, sqT_lit kw1_1 (.cons ⟨_, rfl⟩ (.cons ⟨_, rfl⟩ .nil)) (by decide)⟩⟩ (.cons ⟨⟨_, rfl⟩, ⟨.ref kv1_2, rfl, _, rfl, sqT_lit kw1_2 (.cons ⟨_, rfl⟩ (.cons ⟨_, rfl⟩ .nil)) (by decide)⟩⟩ .nil)))
  have g_MEASURES : ∃ T, mg "MEASURES" = some (.ref T) ∧ ∀ H, SqT K H T [.str "square", .str "dot", .str "bits"] := ⟨_, PySem.W.mg_of X G kg2, sqT_lit kl2 (.cons ⟨_, rfl⟩ (.cons ⟨_, rfl⟩ (.cons ⟨_, rfl⟩ .nil))) (by decide)⟩
  have g_KINDS : ∃ T, mg "KINDS" = some (.ref T) ∧ ∀ H, SqT K H T [.str "integer", .str "text", .str "flag"] := ⟨_, PySem.W.mg_of X G kg3, sqT_lit kl3 (.cons ⟨_, rfl⟩ (.cons ⟨_, rfl⟩ (.cons ⟨_, rfl⟩ .nil))) (by decide)⟩
  have E_InvalidRule : ExcF K mg (cEnv C0 C1 C2 C3 C4 C5 C6 TT11) "InvalidRule" := ⟨xq0, PySem.W.mg_of X G b0, kc0, xb0, xt0⟩
  have E_InvalidSchema : ExcF K mg (cEnv C0 C1 C2 C3 C4 C5 C6 TT11) "InvalidSchema" := ⟨xq3, PySem.W.mg_of X G b3, kc3, xb3, xt3⟩
  have F0 := fun_mk (st := s_law_row) l0 c0 k0
  have F1 := fun_mk (st := s_law_next) l1 c1 k1
  have F2 := fun_mk (st := s_law_rows_of) l2 c2 k2
  have F3 := fun_mk (st := s_Record_init) l3 c3 k3
  have F4 := fun_mk (st := s_check_rule) l4 c4 k4
  have F5 := fun_mk (st := s_Lists_init) l5 c5 k5
  have F6 := fun_mk (st := s_distance) l6 c6 k6
  have F7 := fun_mk (st := s_nearest) l7 c7 k7
  have F8 := fun_mk (st := s_mean) l8 c8 k8
  have F9 := fun_mk (st := s_move) l9 c9 k9
  have F10 := fun_mk (st := s_train) l10 c10 k10
  have F11 := fun_mk (st := s_neighbours) l11 c11 k11
  have F12 := fun_mk (st := s_Sketch_init) l12 c12 k12
  have F13 := fun_mk (st := s_Layout_init) l13 c13 k13
  have F14 := fun_mk (st := s_Lists_layout) l14 c14 k14
  have F15 := fun_mk (st := s_is_letter) l15 c15 k15
  have F16 := fun_mk (st := s_is_digit) l16 c16 k16
  have F17 := fun_mk (st := s_is_field_name) l17 c17 k17
  have F18 := fun_mk (st := s_Schema_init) l18 c18 k18
  have F19 := fun_mk (st := s_law_distance) l19 c19 k19
  have F20 := fun_mk (st := s_law_cells) l20 c20 k20
  have F21 := fun_mk (st := s_law_nearest) l21 c21 k21
  have F22 := fun_mk (st := s_law_shown) l22 c22 k22
  have F23 := fun_mk (st := s_law) l23 c23 k23
  have O_Sketch : ClsOk K (cEnv C0 C1 C2 C3 C4 C5 C6 TT11) "Sketch" ["parent", "centres", "cells"] := ⟨⟨pg1, hd1, po1, sa1⟩, na_of (List.forall_mem_cons.mpr ⟨n1_0, (List.forall_mem_cons.mpr ⟨n1_1, (List.forall_mem_cons.mpr ⟨n1_2, (fun _ h => nomatch h)⟩)⟩)⟩), ha1, hn, htk, hm1, (fun _ h => nomatch h), (fun _ h => nomatch h), (by show _ ∈ (["InvalidRule", "Sketch", "Layout", "InvalidSchema", "Record", "Lists", "Schema"] : List Str); simp), fun y hy e => lk_inj (l := [("InvalidRule", C0), ("Sketch", C1), ("Layout", C2), ("InvalidSchema", C3), ("Record", C4), ("Lists", C5), ("Schema", C6)]) (show (["InvalidRule", "Sketch", "Layout", "InvalidSchema", "Record", "Lists", "Schema"] : List Str).Nodup by decide) nd (by show _ ∈ (["InvalidRule", "Sketch", "Layout", "InvalidSchema", "Record", "Lists", "Schema"] : List Str); simp) hy e⟩
  have C_Sketch : ClsF K mg (cEnv C0 C1 C2 C3 C4 C5 C6 TT11) "Sketch" ["parent", "centres", "cells"] := ⟨O_Sketch, fun h => absurd h (by show _ ∉ ([] : List Str); decide +kernel), PySem.W.mg_of X G b1⟩
  have O_Layout : ClsOk K (cEnv C0 C1 C2 C3 C4 C5 C6 TT11) "Layout" ["sketches", "leaves"] := ⟨⟨pg2, hd2, po2, sa2⟩, na_of (List.forall_mem_cons.mpr ⟨n2_0, (List.forall_mem_cons.mpr ⟨n2_1, (fun _ h => nomatch h)⟩)⟩), ha2, hn, htk, hm2, (fun _ h => nomatch h), (fun _ h => nomatch h), (by show _ ∈ (["InvalidRule", "Sketch", "Layout", "InvalidSchema", "Record", "Lists", "Schema"] : List Str); simp), fun y hy e => lk_inj (l := [("InvalidRule", C0), ("Sketch", C1), ("Layout", C2), ("InvalidSchema", C3), ("Record", C4), ("Lists", C5), ("Schema", C6)]) (show (["InvalidRule", "Sketch", "Layout", "InvalidSchema", "Record", "Lists", "Schema"] : List Str).Nodup by decide) nd (by show _ ∈ (["InvalidRule", "Sketch", "Layout", "InvalidSchema", "Record", "Lists", "Schema"] : List Str); simp) hy e⟩
  have C_Layout : ClsF K mg (cEnv C0 C1 C2 C3 C4 C5 C6 TT11) "Layout" ["sketches", "leaves"] := ⟨O_Layout, fun h => absurd h (by show _ ∉ ([] : List Str); decide +kernel), PySem.W.mg_of X G b2⟩
  have O_Record : ClsOk K (cEnv C0 C1 C2 C3 C4 C5 C6 TT11) "Record" ["name", "vector", "fields", "words"] := ⟨⟨pg4, hd4, po4, sa4⟩, na_of (List.forall_mem_cons.mpr ⟨n4_0, (List.forall_mem_cons.mpr ⟨n4_1, (List.forall_mem_cons.mpr ⟨n4_2, (List.forall_mem_cons.mpr ⟨n4_3, (fun _ h => nomatch h)⟩)⟩)⟩)⟩), ha4, hn, htk, hm4, (fun _ h => nomatch h), (fun _ h => nomatch h), (by show _ ∈ (["InvalidRule", "Sketch", "Layout", "InvalidSchema", "Record", "Lists", "Schema"] : List Str); simp), fun y hy e => lk_inj (l := [("InvalidRule", C0), ("Sketch", C1), ("Layout", C2), ("InvalidSchema", C3), ("Record", C4), ("Lists", C5), ("Schema", C6)]) (show (["InvalidRule", "Sketch", "Layout", "InvalidSchema", "Record", "Lists", "Schema"] : List Str).Nodup by decide) nd (by show _ ∈ (["InvalidRule", "Sketch", "Layout", "InvalidSchema", "Record", "Lists", "Schema"] : List Str); simp) hy e⟩
  have C_Record : ClsF K mg (cEnv C0 C1 C2 C3 C4 C5 C6 TT11) "Record" ["name", "vector", "fields", "words"] := ⟨O_Record, fun h => absurd h (by show _ ∉ ([] : List Str); decide +kernel), PySem.W.mg_of X G b4⟩
  have O_Lists : ClsOk K (cEnv C0 C1 C2 C3 C4 C5 C6 TT11) "Lists" ["centres", "rounds", "cells", "size"] := ⟨⟨pg5, hd5, po5, sa5⟩, na_of (List.forall_mem_cons.mpr ⟨n5_0, (List.forall_mem_cons.mpr ⟨n5_1, (List.forall_mem_cons.mpr ⟨n5_2, (List.forall_mem_cons.mpr ⟨n5_3, (fun _ h => nomatch h)⟩)⟩)⟩)⟩), ha5, hn, htk, hm5, (fun _ h => nomatch h), (fun _ h => nomatch h), (by show _ ∈ (["InvalidRule", "Sketch", "Layout", "InvalidSchema", "Record", "Lists", "Schema"] : List Str); simp), fun y hy e => lk_inj (l := [("InvalidRule", C0), ("Sketch", C1), ("Layout", C2), ("InvalidSchema", C3), ("Record", C4), ("Lists", C5), ("Schema", C6)]) (show (["InvalidRule", "Sketch", "Layout", "InvalidSchema", "Record", "Lists", "Schema"] : List Str).Nodup by decide) nd (by show _ ∈ (["InvalidRule", "Sketch", "Layout", "InvalidSchema", "Record", "Lists", "Schema"] : List Str); simp) hy e⟩
  have C_Lists : ClsF K mg (cEnv C0 C1 C2 C3 C4 C5 C6 TT11) "Lists" ["centres", "rounds", "cells", "size"] := ⟨O_Lists, fun h => absurd h (by show _ ∉ ([] : List Str); decide +kernel), PySem.W.mg_of X G b5⟩
  have O_Schema : ClsOk K (cEnv C0 C1 C2 C3 C4 C5 C6 TT11) "Schema" ["size", "width", "measure", "fields"] := ⟨⟨pg6, hd6, po6, sa6⟩, na_of (List.forall_mem_cons.mpr ⟨n6_0, (List.forall_mem_cons.mpr ⟨n6_1, (List.forall_mem_cons.mpr ⟨n6_2, (List.forall_mem_cons.mpr ⟨n6_3, (fun _ h => nomatch h)⟩)⟩)⟩)⟩), ha6, hn, htk, hm6, (fun _ h => nomatch h), (fun _ h => nomatch h), (by show _ ∈ (["InvalidRule", "Sketch", "Layout", "InvalidSchema", "Record", "Lists", "Schema"] : List Str); simp), fun y hy e => lk_inj (l := [("InvalidRule", C0), ("Sketch", C1), ("Layout", C2), ("InvalidSchema", C3), ("Record", C4), ("Lists", C5), ("Schema", C6)]) (show (["InvalidRule", "Sketch", "Layout", "InvalidSchema", "Record", "Lists", "Schema"] : List Str).Nodup by decide) nd (by show _ ∈ (["InvalidRule", "Sketch", "Layout", "InvalidSchema", "Record", "Lists", "Schema"] : List Str); simp) hy e⟩
  have C_Schema : ClsF K mg (cEnv C0 C1 C2 C3 C4 C5 C6 TT11) "Schema" ["size", "width", "measure", "fields"] := ⟨O_Schema, fun h => absurd h (by show _ ∉ ([] : List Str); decide +kernel), PySem.W.mg_of X G b6⟩
  refine ⟨PySem.W.fnOf "law" "law" (defArgs s_law) (defBody s_law) (defScope s_law) .none kV23 dc23 pm23 an23 cd23 ct23, ([(cc11, TT11)] : List (Addr × Addr)), sp_lawT K (cEnv C0 C1 C2 C3 C4 C5 C6 TT11), (List.forall_mem_cons.mpr ⟨le11, (fun _ h => nomatch h)⟩), (List.forall_mem_cons.mpr ⟨ln11, (fun _ h => nomatch h)⟩), (List.forall_mem_cons.mpr ⟨ZL.codeHd_at X lc11 lb11, (fun _ h => nomatch h)⟩), fun s v => .of_eq rfl, fun H a ns hl _ hT hS => ⟨a, ns, rfl, hS, hl, (List.forall_mem_cons.mpr ⟨LamX.TabS.nil (hT _ (List.mem_cons_self ..)), (fun _ h => nomatch h)⟩), fun _ => rfl⟩, fun base _ _ TBS => ?_⟩
  have LM_neighbours : ZL.LamF base mg ((cEnv C0 C1 C2 C3 C4 C5 C6 TT11)).tb (PySem.W.fnOf "neighbours" "neighbours" (defArgs s_neighbours) (defBody s_neighbours) (defScope s_neighbours) .none kV11 dc11 pm11 an11 (.ref cc11) ct11) "neighbours" := ⟨cc11, TT11, rfl, TBS _ (List.mem_cons_self ..), (List.mem_cons_self ..), ZL.hu_of tnd (List.mem_cons_self ..)⟩
  have D_law_row : Dfn l.prog w K mg base 1 "_law_row" ["_law_script", "_law_k"] (sp_law_row K) := ⟨_, _, PySem.W.mg_of X G a0, F0.kp, F0.binds (ps := ["_law_script", "_law_k"]) (fun _ _ _ _ _ _ us hl => match us, hl with | [_, _], _ => rfl), ok_law_row m_len m_int F0⟩
  have D_law_next : Dfn l.prog w K mg base 2 "_law_next" ["_law_state", "_law_many"] (sp_law_next K) := ⟨_, _, PySem.W.mg_of X G a1, F1.kp, F1.binds (ps := ["_law_state", "_law_many"]) (fun _ _ _ _ _ _ us hl => match us, hl with | [_, _], _ => rfl), ok_law_next D_law_row m_int F1⟩
  have D_law_rows_of : Dfn l.prog w K mg base 3 "_law_rows_of" ["_law_state", "_law_size", "_law_spread"] (sp_law_rows_of K (cEnv C0 C1 C2 C3 C4 C5 C6 TT11)) := ⟨_, _, PySem.W.mg_of X G a2, F2.kp, F2.binds (ps := ["_law_state", "_law_size", "_law_spread"]) (fun _ _ _ _ _ _ us hl => match us, hl with | [_, _, _], _ => rfl), ok_law_rows_of D_law_next m_range m_str F2⟩
  have FD3 : FunD K "__init__" "Record.__init__" (defArgs s_Record_init) (defBody s_Record_init) (defScope s_Record_init) [] [("fields", .ref kT3_fields), ("words", .ref kT3_words)] f3 _ := ⟨⟨_, _, _, _, _, _, _, _, _, _, rfl, l3, c3, .inl ⟨rfl, rfl⟩, .inr ⟨kD3, rfl, (List.forall_mem_cons.mpr ⟨⟨_, kd3_fields, rfl⟩, (List.forall_mem_cons.mpr ⟨⟨_, kd3_words, rfl⟩, (fun _ h => nomatch h)⟩)⟩)⟩⟩, k3⟩
  have B_K_Record_init_2 := FunD.kbinds0 (ps := ["self", "name", "vector", "fields", "words"]) FD3 3 [] [("fields", .ref kT3_fields), ("words", .ref kT3_words)] (gSel [(false, 0), (false, 1)]) (by simp) (by simp) (fun r1 r2 r3 => gSel_rel [(false, 0), (false, 1)] r1 r2 r3) (fun D doc pm an cdv ct us mv ws h1 h2 h3 => match us, h1, mv, h2, ws, h3 with | [_, _, _], _, [_, _], _, [], _ => ⟨_, _, _, _, _, _, rfl, rfl, ⟨_, _, _, _, _, _, rfl, rfl, rfl⟩⟩)
  have K_Record_init_2 : MkrK CX0 l.prog w K mg base 1 ((cEnv C0 C1 C2 C3 C4 C5 C6 TT11).cls "Record") ["self", "name", "vector", "fields", "words"] (sp_Record_init K (cEnv C0 C1 C2 C3 C4 C5 C6 TT11)) 2 [] [.e, .e] [(false, 0), (false, 1)] := B_K_Record_init_2.elim fun mv hb => ⟨_, _, _, _, ⟨mk4, a3, i3, kc4⟩, (.cons ⟨_, rfl, sqT_lit kx3_fields .nil (by decide)⟩ (.cons ⟨_, rfl, sqT_lit kx3_words .nil (by decide)⟩ .nil)), hb, ok_Record_init m_tuple F3⟩
  have D_check_rule : DfnX l.prog w K mg base 1 "check_rule" ["positive", "other"] (sp_check_rule K (cEnv C0 C1 C2 C3 C4 C5 C6 TT11)) := ⟨_, _, PySem.W.mg_of X G a4, F4.kp, F4.binds (ps := ["positive", "other"]) (fun _ _ _ _ _ _ us hl => match us, hl with | [_, _], _ => rfl), ok_check_rule E_InvalidRule F4⟩
  have FD5 : FunD K "__init__" "Lists.__init__" (defArgs s_Lists_init) (defBody s_Lists_init) (defScope s_Lists_init) [] [("rounds", (.int 0)), ("cells", (.int 0)), ("size", (.int 1))] f5 _ := ⟨⟨_, _, _, _, _, _, _, _, _, _, rfl, l5, c5, .inl ⟨rfl, rfl⟩, .inr ⟨kD5, rfl, (List.forall_mem_cons.mpr ⟨⟨_, kd5_rounds, ⟨_, rfl⟩⟩, (List.forall_mem_cons.mpr ⟨⟨_, kd5_cells, ⟨_, rfl⟩⟩, (List.forall_mem_cons.mpr ⟨⟨_, kd5_size, ⟨_, rfl⟩⟩, (fun _ h => nomatch h)⟩)⟩)⟩)⟩⟩, k5⟩
  have B_K_Lists_init_1_rounds_cells_size := FunD.kbinds0 (ps := ["self", "centres", "rounds", "cells", "size"]) FD5 2 ["rounds", "cells", "size"] [] (gSel [(true, 0), (true, 1), (true, 2)]) (by simp) (by simp) (fun r1 r2 r3 => gSel_rel [(true, 0), (true, 1), (true, 2)] r1 r2 r3) (fun D doc pm an cdv ct us mv ws h1 h2 h3 => match us, h1, mv, h2, ws, h3 with | [_, _], _, [], _, [_, _, _], _ => rfl)
  have K_Lists_init_1_rounds_cells_size : MkrK (L2.CX l.prog w) l.prog w K mg base 2 ((cEnv C0 C1 C2 C3 C4 C5 C6 TT11).cls "Lists") ["self", "centres", "rounds", "cells", "size"] (sp_Lists_init K (cEnv C0 C1 C2 C3 C4 C5 C6 TT11)) 1 ["rounds", "cells", "size"] [] [(true, 0), (true, 1), (true, 2)] := B_K_Lists_init_1_rounds_cells_size.elim fun mv hb => ⟨_, _, _, _, ⟨mk5, a5, i5, kc5⟩, .nil, hb, ok_Lists_init D_check_rule F5⟩
  have D_distance : Dfn l.prog w K mg base 1 "distance" ["a", "b"] (sp_distance K (cEnv C0 C1 C2 C3 C4 C5 C6 TT11)) := ⟨_, _, PySem.W.mg_of X G a6, F6.kp, F6.binds (ps := ["a", "b"]) (fun _ _ _ _ _ _ us hl => match us, hl with | [_, _], _ => rfl), ok_distance m_zip F6⟩
  have D_nearest : Dfn l.prog w K mg base 2 "nearest" ["centres", "vector"] (sp_nearest K (cEnv C0 C1 C2 C3 C4 C5 C6 TT11)) := ⟨_, _, PySem.W.mg_of X G a7, F7.kp, F7.binds (ps := ["centres", "vector"]) (fun _ _ _ _ _ _ us hl => match us, hl with | [_, _], _ => rfl), ok_nearest D_distance m_len m_range F7⟩
  have D_mean : Dfn l.prog w K mg base 1 "mean" ["vectors"] (sp_mean K (cEnv C0 C1 C2 C3 C4 C5 C6 TT11)) := ⟨_, _, PySem.W.mg_of X G a8, F8.kp, F8.binds (ps := ["vectors"]) (fun _ _ _ _ _ _ us hl => match us, hl with | [_], _ => rfl), ok_mean m_len m_range m_sum m_tuple F8⟩
  have D_move : Dfn l.prog w K mg base 3 "move" ["centres", "vectors"] (sp_move K (cEnv C0 C1 C2 C3 C4 C5 C6 TT11)) := ⟨_, _, PySem.W.mg_of X G a9, F9.kp, F9.binds (ps := ["centres", "vectors"]) (fun _ _ _ _ _ _ us hl => match us, hl with | [_, _], _ => rfl), ok_move D_nearest D_mean m_enumerate m_zip m_len F9⟩
  have D_train : Dfn l.prog w K mg base 4 "train" ["vectors", "number", "rounds"] (sp_train K (cEnv C0 C1 C2 C3 C4 C5 C6 TT11)) := ⟨_, _, PySem.W.mg_of X G a10, F10.kp, F10.binds (ps := ["vectors", "number", "rounds"]) (fun _ _ _ _ _ _ us hl => match us, hl with | [_, _, _], _ => rfl), ok_train D_move m_len m_min m_range m_tuple F10⟩
  have D_neighbours : Dfn l.prog w K mg base 6 "neighbours" ["centres", "place", "cells"] (sp_neighbours K (cEnv C0 C1 C2 C3 C4 C5 C6 TT11)) := ⟨_, _, PySem.W.mg_of X G a11, F11.kp, F11.binds (ps := ["centres", "place", "cells"]) (fun _ _ _ _ _ _ us hl => match us, hl with | [_, _, _], _ => rfl), ok_neighbours D_distance m_len m_range m_sorted F11 LM_neighbours⟩
  have FD12 : FunD K "__init__" "Sketch.__init__" (defArgs s_Sketch_init) (defBody s_Sketch_init) (defScope s_Sketch_init) [] [("centres", .ref kT12_centres), ("cells", .ref kT12_cells)] f12 _ := ⟨⟨_, _, _, _, _, _, _, _, _, _, rfl, l12, c12, .inl ⟨rfl, rfl⟩, .inr ⟨kD12, rfl, (List.forall_mem_cons.mpr ⟨⟨_, kd12_centres, rfl⟩, (List.forall_mem_cons.mpr ⟨⟨_, kd12_cells, rfl⟩, (fun _ h => nomatch h)⟩)⟩)⟩⟩, k12⟩
  have B_K_Sketch_init_1 := FunD.kbinds0 (ps := ["self", "parent", "centres", "cells"]) FD12 2 [] [("centres", .ref kT12_centres), ("cells", .ref kT12_cells)] (gSel [(false, 0), (false, 1)]) (by simp) (by simp) (fun r1 r2 r3 => gSel_rel [(false, 0), (false, 1)] r1 r2 r3) (fun D doc pm an cdv ct us mv ws h1 h2 h3 => match us, h1, mv, h2, ws, h3 with | [_, _], _, [_, _], _, [], _ => ⟨_, _, _, _, _, _, rfl, rfl, ⟨_, _, _, _, _, _, rfl, rfl, rfl⟩⟩)
  have K_Sketch_init_1 : MkrK CX0 l.prog w K mg base 1 ((cEnv C0 C1 C2 C3 C4 C5 C6 TT11).cls "Sketch") ["self", "parent", "centres", "cells"] (sp_Sketch_init K (cEnv C0 C1 C2 C3 C4 C5 C6 TT11)) 1 [] [.e, .e] [(false, 0), (false, 1)] := B_K_Sketch_init_1.elim fun mv hb => ⟨_, _, _, _, ⟨mk1, a12, i12, kc1⟩, (.cons ⟨_, rfl, sqT_lit kx12_centres .nil (by decide)⟩ (.cons ⟨_, rfl, sqT_lit kx12_cells .nil (by decide)⟩ .nil)), hb, ok_Sketch_init m_tuple F12⟩
  have B_K_Sketch_init_1_centres_cells := FunD.kbinds0 (ps := ["self", "parent", "centres", "cells"]) FD12 2 ["centres", "cells"] [] (gSel [(true, 0), (true, 1)]) (by simp) (by simp) (fun r1 r2 r3 => gSel_rel [(true, 0), (true, 1)] r1 r2 r3) (fun D doc pm an cdv ct us mv ws h1 h2 h3 => match us, h1, mv, h2, ws, h3 with | [_, _], _, [], _, [_, _], _ => rfl)
  have K_Sketch_init_1_centres_cells : MkrK CX0 l.prog w K mg base 1 ((cEnv C0 C1 C2 C3 C4 C5 C6 TT11).cls "Sketch") ["self", "parent", "centres", "cells"] (sp_Sketch_init K (cEnv C0 C1 C2 C3 C4 C5 C6 TT11)) 1 ["centres", "cells"] [] [(true, 0), (true, 1)] := B_K_Sketch_init_1_centres_cells.elim fun mv hb => ⟨_, _, _, _, ⟨mk1, a12, i12, kc1⟩, .nil, hb, ok_Sketch_init m_tuple F12⟩
  have K_Layout_init : Mkr l.prog w K mg base 1 ((cEnv C0 C1 C2 C3 C4 C5 C6 TT11).cls "Layout") ["self", "sketches", "leaves"] (sp_Layout_init K (cEnv C0 C1 C2 C3 C4 C5 C6 TT11)) := ⟨_, _, ⟨mk2, a13, i13, kc2⟩, F13.binds (ps := ["self", "sketches", "leaves"]) (fun _ _ _ _ _ _ us hl => match us, hl with | [_, _, _], _ => rfl), ok_Layout_init m_tuple F13⟩
  have M_Lists_layout : Mth l.prog w K mg base 7 ((cEnv C0 C1 C2 C3 C4 C5 C6 TT11).cls "Lists") "layout" ["self", "schema", "records"] (sp_Lists_layout K (cEnv C0 C1 C2 C3 C4 C5 C6 TT11)) := ⟨_, _, ⟨a14, i14, k14⟩, F14.binds (ps := ["self", "schema", "records"]) (fun _ _ _ _ _ _ us hl => match us, hl with | [_, _, _], _ => rfl), ok_Lists_layout C_Sketch C_Layout D_train D_neighbours K_Sketch_init_1_centres_cells K_Sketch_init_1 D_nearest K_Layout_init m_enumerate m_len m_range F14⟩
  have D_is_letter : Dfn l.prog w K mg base 1 "is_letter" ["sign"] (sp_is_letter K (cEnv C0 C1 C2 C3 C4 C5 C6 TT11)) := ⟨_, _, PySem.W.mg_of X G a15, F15.kp, F15.binds (ps := ["sign"]) (fun _ _ _ _ _ _ us hl => match us, hl with | [_], _ => rfl), ok_is_letter F15⟩
  have D_is_digit : Dfn l.prog w K mg base 1 "is_digit" ["sign"] (sp_is_digit K (cEnv C0 C1 C2 C3 C4 C5 C6 TT11)) := ⟨_, _, PySem.W.mg_of X G a16, F16.kp, F16.binds (ps := ["sign"]) (fun _ _ _ _ _ _ us hl => match us, hl with | [_], _ => rfl), ok_is_digit F16⟩
  have D_is_field_name : Dfn l.prog w K mg base 2 "is_field_name" ["name"] (sp_is_field_name K (cEnv C0 C1 C2 C3 C4 C5 C6 TT11)) := ⟨_, _, PySem.W.mg_of X G a17, F17.kp, F17.binds (ps := ["name"]) (fun _ _ _ _ _ _ us hl => match us, hl with | [_], _ => rfl), ok_is_field_name D_is_letter D_is_digit g_WORDS F17⟩
  have FD18 : FunD K "__init__" "Schema.__init__" (defArgs s_Schema_init) (defBody s_Schema_init) (defScope s_Schema_init) [] [("width", (.str "small")), ("measure", (.str "square")), ("fields", .ref kT18_fields)] f18 _ := ⟨⟨_, _, _, _, _, _, _, _, _, _, rfl, l18, c18, .inl ⟨rfl, rfl⟩, .inr ⟨kD18, rfl, (List.forall_mem_cons.mpr ⟨⟨_, kd18_width, ⟨_, rfl⟩⟩, (List.forall_mem_cons.mpr ⟨⟨_, kd18_measure, ⟨_, rfl⟩⟩, (List.forall_mem_cons.mpr ⟨⟨_, kd18_fields, rfl⟩, (fun _ h => nomatch h)⟩)⟩)⟩)⟩⟩, k18⟩
  have B_K_Schema_init_1 := FunD.kbinds0 (ps := ["self", "size", "width", "measure", "fields"]) FD18 2 [] [("width", (.str "small")), ("measure", (.str "square")), ("fields", .ref kT18_fields)] (gSel [(false, 0), (false, 1), (false, 2)]) (by simp) (by simp) (fun r1 r2 r3 => gSel_rel [(false, 0), (false, 1), (false, 2)] r1 r2 r3) (fun D doc pm an cdv ct us mv ws h1 h2 h3 => match us, h1, mv, h2, ws, h3 with | [_, _], _, [_, _, _], _, [], _ => ⟨_, _, _, _, _, _, rfl, rfl, ⟨_, _, _, _, _, _, rfl, rfl, ⟨_, _, _, _, _, _, rfl, rfl, rfl⟩⟩⟩)
  have K_Schema_init_1 : MkrK (L2.CX l.prog w) l.prog w K mg base 3 ((cEnv C0 C1 C2 C3 C4 C5 C6 TT11).cls "Schema") ["self", "size", "width", "measure", "fields"] (sp_Schema_init K (cEnv C0 C1 C2 C3 C4 C5 C6 TT11)) 1 [] [(.v (.str "small")), (.v (.str "square")), .e] [(false, 0), (false, 1), (false, 2)] := B_K_Schema_init_1.elim fun mv hb => ⟨_, _, _, _, ⟨mk6, a18, i18, kc6⟩, (.cons rfl (.cons rfl (.cons ⟨_, rfl, sqT_lit kx18_fields .nil (by decide)⟩ .nil))), hb, ok_Schema_init E_InvalidSchema D_is_field_name m_tuple g_RANGES g_MEASURES g_KINDS F18⟩
  have D_law_distance : Dfn l.prog w K mg base 1 "_law_distance" ["_law_a", "_law_b"] (sp_law_distance K (cEnv C0 C1 C2 C3 C4 C5 C6 TT11)) := ⟨_, _, PySem.W.mg_of X G a19, F19.kp, F19.binds (ps := ["_law_a", "_law_b"]) (fun _ _ _ _ _ _ us hl => match us, hl with | [_, _], _ => rfl), ok_law_distance m_len m_range F19⟩
  have D_law_cells : Dfn l.prog w K mg base 2 "_law_cells" ["_law_centres", "_law_k", "_law_cells_here"] (sp_law_cells K (cEnv C0 C1 C2 C3 C4 C5 C6 TT11)) := ⟨_, _, PySem.W.mg_of X G a20, F20.kp, F20.binds (ps := ["_law_centres", "_law_k", "_law_cells_here"]) (fun _ _ _ _ _ _ us hl => match us, hl with | [_, _, _], _ => rfl), ok_law_cells D_law_distance m_len m_range m_list F20⟩
  have D_law_nearest : Dfn l.prog w K mg base 2 "_law_nearest" ["_law_centres", "_law_vector"] (sp_law_nearest K (cEnv C0 C1 C2 C3 C4 C5 C6 TT11)) := ⟨_, _, PySem.W.mg_of X G a21, F21.kp, F21.binds (ps := ["_law_centres", "_law_vector"]) (fun _ _ _ _ _ _ us hl => match us, hl with | [_, _], _ => rfl), ok_law_nearest D_law_distance m_len m_range F21⟩
  have D_law_shown : Dfn l.prog w K mg base 1 "_law_shown" ["_law_layout"] (sp_law_shown K (cEnv C0 C1 C2 C3 C4 C5 C6 TT11)) := ⟨_, _, PySem.W.mg_of X G a22, F22.kp, F22.binds (ps := ["_law_layout"]) (fun _ _ _ _ _ _ us hl => match us, hl with | [_], _ => rfl), ok_law_shown m_list F22⟩
  exact ok_law C_Record C_Lists C_Schema D_law_next D_law_rows_of K_Record_init_2 K_Lists_init_1_rounds_cells_size M_Lists_layout K_Schema_init_1 D_train D_law_cells D_law_nearest D_law_shown m_list m_tuple m_len m_range m_int F23
theorem walk {l : PySem.W.OpenLaw} {q : Program} {loose : List Str} {XP : (Str → Option Value) → Heap → Prop} {YP : World → Heap → Prop} {d : DefRec} {K : Params → PySem.W.Frag} (hn : l.most = some 63) (hdf : d.params.defaults = [])
    (hY : ∀ (w : World) (h : Heap), YP w h → (K w.params).In h)
    (F : ∀ (w : World) (mg : Str → Option Value) (fa : Addr) (h : Heap), YP w h → (K w.params).In h → h.Ns mainGlobals mg → mg d.name = some (.ref fa) →
      LamX.LawAtS l w (K w.params) CX0 8 63 "_law_script" mg fa h) :
    PySem.W.WalkO q loose XP YP l.row.toRowW d [] (fun f vs => PySem.call f vs) :=
  LamX.walk_ofTs (n := 63) (k := 8) (x := "_law_script") (CX := fun _ => CX0) hn (by decide) hdf ⟨rfl, by decide, by decide⟩ hY F fun _ _ _ _ _ z => z
end Z
open PySem PySem.W PyProof.Rows
set_option maxRecDepth 100000 in
set_option maxHeartbeats 0 in
theorem PySem.Challenge.cw_surenear_k30_lists_holds : PySem.Challenge.rw_surenear_k30_lists.Holds := by
  w_on; o_law
  refine ZH.head_runT ZH.left (d := ZH.lawD) (kwd := []) (by kernel_rfl) (by kernel_rfl) (by kernel_rfl) (by rfl) (by first | assumption | decide +kernel) (by decide +kernel) ⟨rfl, rfl, rfl, rfl, rfl, by decide +kernel⟩ ?hw ?hc
  (case hw => w_witness2)
  k_fill
  refine Z.walk (l := PySem.Challenge.rw_surenear_k30_lists) rfl rfl (fun w h Y => PySem.W.km_in_of Y) ?F
  case F =>
    intro w mg fa h Y KX G hmg0
    have hmg : mg ("law" : PySem.Str) = some (.ref fa) := by rw [← ZH.lawD_name]; exact hmg0
    refine' Z.all_mk KX G hmg ?b0 ?b1 ?b2 ?b3 ?b4 ?b5 ?b6 ?xq0 ?kc0 ?xb0 ?xt0 ?pg1 ?hd1 ?po1 ?sa1 ?ha1 ?hm1 ?mk1 ?kc1 ?n1_0 ?n1_1 ?n1_2 ?pg2 ?hd2 ?po2 ?sa2 ?ha2 ?hm2 ?mk2 ?kc2 ?n2_0 ?n2_1 ?xq3 ?kc3 ?xb3 ?xt3 ?pg4 ?hd4 ?po4 ?sa4 ?ha4 ?hm4 ?mk4 ?kc4 ?n4_0 ?n4_1 ?n4_2 ?n4_3 ?pg5 ?hd5 ?po5 ?sa5 ?ha5 ?hm5 ?mk5 ?kc5 ?n5_0 ?n5_1 ?n5_2 ?n5_3 ?pg6 ?hd6 ?po6 ?sa6 ?ha6 ?hm6 ?mk6 ?kc6 ?n6_0 ?n6_1 ?n6_2 ?n6_3 ?hn ?htk ?nd ?a0 ?l0 ?c0 ?k0 ?a1 ?l1 ?c1 ?k1 ?a2 ?l2 ?c2 ?k2 ?a3 ?i3 ?l3 ?c3 ?k3 ?a4 ?l4 ?c4 ?k4 ?a5 ?i5 ?l5 ?c5 ?k5 ?a6 ?l6 ?c6 ?k6 ?a7 ?l7 ?c7 ?k7 ?a8 ?l8 ?c8 ?k8 ?a9 ?l9 ?c9 ?k9 ?a10 ?l10 ?c10 ?k10 ?a11 ?l11 ?c11 ?k11 ?a12 ?i12 ?l12 ?c12 ?k12 ?a13 ?i13 ?l13 ?c13 ?k13 ?a14 ?i14 ?l14 ?c14 ?k14 ?a15 ?l15 ?c15 ?k15 ?a16 ?l16 ?c16 ?k16 ?a17 ?l17 ?c17 ?k17 ?a18 ?i18 ?l18 ?c18 ?k18 ?a19 ?l19 ?c19 ?k19 ?a20 ?l20 ?c20 ?k20 ?a21 ?l21 ?c21 ?k21 ?a22 ?l22 ?c22 ?k22 ?a23 ?l23 ?c23 ?k23 ?kd3_fields ?kx3_fields ?kd3_words ?kx3_words ?kd5_rounds ?kd5_cells ?kd5_size ?kd12_centres ?kx12_centres ?kd12_cells ?kx12_cells ?kd18_width ?kd18_measure ?kd18_fields ?kx18_fields ?lc11 ?lt11 ?lb11 ?ln11 ?le11 ?tnd ?z0 ?z1 ?z2 ?z3 ?z4 ?z5 ?z6 ?z7 ?z8 ?z9 ?z10 ?kg0 ?kl0 ?kg1 ?kl1 ?kk1 ?ko1 ?kw1_0 ?kw1_1 ?kw1_2 ?kg2 ?kl2 ?kg3 ?kl3
    (case b0 => k_is)
    (case b1 => k_is)
    (case b2 => k_is)
    (case b3 => k_is)
    (case b4 => k_is)
    (case b5 => k_is)
    (case b6 => k_is)
    (case xq0 => k_exc)
    (case kc0 => k_is)
    (case xb0 => k_is)
    (case xt0 => k_is)
    (case pg1 => k_is)
    (case hd1 => k_is)
    (case po1 => k_is)
    (case sa1 => k_is)
    (case ha1 => k_is)
    (case hm1 => k_is)
    (case mk1 => k_is)
    (case kc1 => k_is)
    (case n1_0 => k_is)
    (case n1_1 => k_is)
    (case n1_2 => k_is)
    (case pg2 => k_is)
    (case hd2 => k_is)
    (case po2 => k_is)
    (case sa2 => k_is)
    (case ha2 => k_is)
    (case hm2 => k_is)
    (case mk2 => k_is)
    (case kc2 => k_is)
    (case n2_0 => k_is)
    (case n2_1 => k_is)
    (case xq3 => k_exc)
    (case kc3 => k_is)
    (case xb3 => k_is)
    (case xt3 => k_is)
    (case pg4 => k_is)
    (case hd4 => k_is)
    (case po4 => k_is)
    (case sa4 => k_is)
    (case ha4 => k_is)
    (case hm4 => k_is)
    (case mk4 => k_is)
    (case kc4 => k_is)
    (case n4_0 => k_is)
    (case n4_1 => k_is)
    (case n4_2 => k_is)
    (case n4_3 => k_is)
    (case pg5 => k_is)
    (case hd5 => k_is)
    (case po5 => k_is)
    (case sa5 => k_is)
    (case ha5 => k_is)
    (case hm5 => k_is)
    (case mk5 => k_is)
    (case kc5 => k_is)
    (case n5_0 => k_is)
    (case n5_1 => k_is)
    (case n5_2 => k_is)
    (case n5_3 => k_is)
    (case pg6 => k_is)
    (case hd6 => k_is)
    (case po6 => k_is)
    (case sa6 => k_is)
    (case ha6 => k_is)
    (case hm6 => k_is)
    (case mk6 => k_is)
    (case kc6 => k_is)
    (case n6_0 => k_is)
    (case n6_1 => k_is)
    (case n6_2 => k_is)
    (case n6_3 => k_is)
    (case hn => k_is)
    (case htk => k_is)
    (case nd => decide)
    (case a0 => k_is)
    (case l0 => k_is)
    (case c0 => k_is)
    (case k0 => k_is)
    (case a1 => k_is)
    (case l1 => k_is)
    (case c1 => k_is)
    (case k1 => k_is)
    (case a2 => k_is)
    (case l2 => k_is)
    (case c2 => k_is)
    (case k2 => k_is)
    (case a3 => k_is)
    (case i3 => k_is)
    (case l3 => k_is)
    (case c3 => k_is)
    (case k3 => k_is)
    (case a4 => k_is)
    (case l4 => k_is)
    (case c4 => k_is)
    (case k4 => k_is)
    (case a5 => k_is)
    (case i5 => k_is)
    (case l5 => k_is)
    (case c5 => k_is)
    (case k5 => k_is)
    (case a6 => k_is)
    (case l6 => k_is)
    (case c6 => k_is)
    (case k6 => k_is)
    (case a7 => k_is)
    (case l7 => k_is)
    (case c7 => k_is)
    (case k7 => k_is)
    (case a8 => k_is)
    (case l8 => k_is)
    (case c8 => k_is)
    (case k8 => k_is)
    (case a9 => k_is)
    (case l9 => k_is)
    (case c9 => k_is)
    (case k9 => k_is)
    (case a10 => k_is)
    (case l10 => k_is)
    (case c10 => k_is)
    (case k10 => k_is)
    (case a11 => k_is)
    (case l11 => k_is)
    (case c11 => k_is)
    (case k11 => k_is)
    (case a12 => k_is)
    (case i12 => k_is)
    (case l12 => k_is)
    (case c12 => k_is)
    (case k12 => k_is)
    (case a13 => k_is)
    (case i13 => k_is)
    (case l13 => k_is)
    (case c13 => k_is)
    (case k13 => k_is)
    (case a14 => k_is)
    (case i14 => k_is)
    (case l14 => k_is)
    (case c14 => k_is)
    (case k14 => k_is)
    (case a15 => k_is)
    (case l15 => k_is)
    (case c15 => k_is)
    (case k15 => k_is)
    (case a16 => k_is)
    (case l16 => k_is)
    (case c16 => k_is)
    (case k16 => k_is)
    (case a17 => k_is)
    (case l17 => k_is)
    (case c17 => k_is)
    (case k17 => k_is)
    (case a18 => k_is)
    (case i18 => k_is)
    (case l18 => k_is)
    (case c18 => k_is)
    (case k18 => k_is)
    (case a19 => k_is)
    (case l19 => k_is)
    (case c19 => k_is)
    (case k19 => k_is)
    (case a20 => k_is)
    (case l20 => k_is)
    (case c20 => k_is)
    (case k20 => k_is)
    (case a21 => k_is)
    (case l21 => k_is)
    (case c21 => k_is)
    (case k21 => k_is)
    (case a22 => k_is)
    (case l22 => k_is)
    (case c22 => k_is)
    (case k22 => k_is)
    (case a23 => k_is)
    (case l23 => k_is)
    (case c23 => k_is)
    (case k23 => k_is)
    (case kd3_fields => k_is)
    (case kx3_fields => k_is)
    (case kd3_words => k_is)
    (case kx3_words => k_is)
    (case kd5_rounds => k_is)
    (case kd5_cells => k_is)
    (case kd5_size => k_is)
    (case kd12_centres => k_is)
    (case kx12_centres => k_is)
    (case kd12_cells => k_is)
    (case kx12_cells => k_is)
    (case kd18_width => k_is)
    (case kd18_measure => k_is)
    (case kd18_fields => k_is)
    (case kx18_fields => k_is)
    (case lc11 => k_is)
    (case lt11 => rfl)
    (case lb11 => decide +kernel)
    (case ln11 => kernel_rfl)
    (case le11 => exact PySem.W.km_tabs_of Y _ (by decide +kernel))
    (case tnd => decide)
    (case z0 => k_is)
    (case z1 => k_is)
    (case z2 => k_is)
    (case z3 => k_is)
    (case z4 => k_is)
    (case z5 => k_is)
    (case z6 => k_is)
    (case z7 => k_is)
    (case z8 => k_is)
    (case z9 => k_is)
    (case z10 => k_is)
    (case kg0 => k_is)
    (case kl0 => k_is)
    (case kg1 => k_is)
    (case kl1 => k_is)
    (case kk1 => k_keys)
    (case ko1 => decide)
    (case kw1_0 => k_is)
    (case kw1_1 => k_is)
    (case kw1_2 => k_is)
    (case kg2 => k_is)
    (case kl2 => k_is)
    (case kg3 => k_is)
    (case kl3 => k_is)

