import PyProof.Rows.All
import Wide.All
import OpenK.AllK
import Wide.FinOn
import Wide.Once
import HandS.Words
import HandS.Head0
import HandS.Head1
import HandS.Head2
import KE.KNestM
import HandS.EndTab
import HandS.ForExc
import HandS.ForMost
import HandS.Wide
import HandS.IsInst
import HandS.TupAny
import HandS.Flow
import HandS.Codes
import HandS.Zip
import HandS.TupLe
import HandS.Property
import HandS.OwnEq
import KE.GoesMore
import HandS.Defaults
import HandS.MakeKwOnly
import HandS.More
import HandS.TryMany
import HandS.RaiseMore
import HandS.Lambda
import KE.GoesNew
import HandS.ClsMeth
import HandS.New0
import HandS.Conv
import HandS.SortInts
import KE.SortKeyHeap
import HandS.SortKw
import KE.SortData
import HandS.Dict
import KE.DataEq
import PySem.Challenge.RW_surenear_k70_names_belong_to_shards
set_option Elab.async false
set_option linter.all false
set_option maxRecDepth 100000
set_option maxHeartbeats 4000000
set_option exponentiation.threshold 100000
namespace ZH
open PySem PySem.W PySem.Calls PyProof.Rows
abbrev nd := PySem.W.BT.node
abbrev lf := PySem.W.BT.nil
abbrev zd (P : Params) (s : PySem.Str) (t : Nat) (v : Value) : DictEntry := ⟨PyData.keyHash P s, .str s t, v⟩
abbrev zf (st : Stmt) (name qual : PySem.Str) (g : Nat) (cl : List (PySem.Str × Addr)) (d kd doc pm : Value) (an : Option Addr) (cd ct : Value) (bi : Nat) : FuncData :=
  ⟨name, qual, L2.defArgs st, .stmts (L2.defBody st), L2.defScope st, g, cl, d, kd, doc, pm, an, cd, ct, bi⟩
abbrev looksH := HandSHeadRun.looksF
noncomputable abbrev seenH := HandSHeadRun.seenQ
theorem seg_q {p : Program} {w : World} {n0 n b : Nat} {ann : Option Value} {s : SharedT} {l : List Stmt} {env : Env} {c : Code} {pos : Pos} {B : List Frame} {r : Option (Flow × SharedT × Code × Pos)}
    (h : PySem.W.Fast.tw10110043849684766642 PySem.W.Fast.tw14364793385576792824 p w n0 ann b n s ⟨(PySem.W.Fast.tw12563942051412417395 l env).wrap doneF deadEnd id id, c, pos, B⟩ = r) :
    segRunT treeTable p w n0 ann b n s (piecesOf l env c pos B) = r := by
  have e1 : @segRunT = PySem.W.Fast.tw10110043849684766642 := PySem.W.Fast.te10110043849684766642
  have e2 : @treeTable = PySem.W.Fast.tw14364793385576792824 := PySem.W.Fast.te14364793385576792824
  have e3 : @execs = PySem.W.Fast.tw12563942051412417395 := PySem.W.Fast.te12563942051412417395
  rw [← h, ← e1, ← e2, ← e3]
theorem looks_run {p q : Program} {w : World} {os : OsState} {loose : List PySem.Str} {Xt : Shared → Bool} {K : Params → PySem.W.Frag} {as : List Addr} {ek : ∀ P, as = (K P).map (·.1)} {M n0 : Nat} {ann : Option Value} {s : SharedT}
    (r : topRun treeTable p w n0 ann M ⟨boot_heap w.params, #[], boot_drawn, boot_toks, os⟩ (topStub p) = some s.abs)
    (h : (looksH p (boot_heap w.params) s.abs, seenH q loose (importedModules p.main.body) Xt s.abs, as.map (HandSHeadRun.getT s)) = (true, openGood q loose, (K w.params).map fun x => some x.2)) :
    ∃ s : Shared, topRun treeTable p w n0 ann M ⟨boot_heap w.params, #[], boot_drawn, boot_toks, os⟩ (topStub p) = some s ∧ looksH p (boot_heap w.params) s = true ∧
      openSeen q loose (importedModules p.main.body) Xt true s = openGood q loose ∧ (kHook K as ek).obs s = (kHook K as ek).val w := by
  obtain ⟨h1, h2⟩ := Prod.mk.inj h
  obtain ⟨h2, h3⟩ := Prod.mk.inj h2
  refine ⟨_, r, h1, (HandSHeadRun.seenQ_eq ..).trans h2, ?_⟩
  refine Eq.trans ?_ h3
  exact List.map_congr_left fun a _ => (HandSHeadRun.getT_eq s a).symm
theorem left_run {p q : Program} {loose : List PySem.Str} {Xt : Shared → Bool} {α : Type} {Yf : Shared → α} {Ya : World → α} {N M n0 : Nat} {ann : Option Value}
    (e : opening p = plainProg p.main.scope.names) (hN : Nat.ble 600 N = true) (f : ∀ s, fenceModules? p s = some s) (le : Nat.ble M N = true)
    (hn : ∀ w : World, (boot_heap w.params).objs.size = n0) (ha : ∀ w : World, (boot_heap w.params).nsMap mainGlobals "__annotations__" = ann)
    (run : ∀ (w : World) (os : OsState), ∃ s : Shared, topRun treeTable p w n0 ann M ⟨boot_heap w.params, #[], boot_drawn, boot_toks, os⟩ (topStub p) = some s ∧ looksH p (boot_heap w.params) s = true ∧
      openSeen q loose (importedModules p.main.body) Xt true s = openGood q loose ∧ Yf s = Ya w) :
    LeftO p q loose Xt Yf Ya N true := by
  intro w
  obtain ⟨⟨hp, gs, dr, tk, os⟩, bo, eq⟩ := Option.map_eq_some_iff.mp (boot_open e hN f w)
  simp only [Prod.mk.injEq] at eq
  obtain ⟨rfl, rfl, rfl, rfl⟩ := eq
  obtain ⟨s, hr, l1, l2, l3⟩ := run w os
  have up := topRun_mono (N - M) _ _ _ _ hr
  have eN : M + (N - M) = N := by have := Nat.le_of_ble_eq_true le; omega
  rw [eN, ← hn w, ← ha w] at up
  have tf : topFrom treeTable p w N ⟨boot_heap w.params, #[], boot_drawn, boot_toks, os⟩ = some s := by
    unfold topFrom
    have b1 : ((boot_heap w.params).isNs mainGlobals && (#[] : Array GenState).size == 0) = true := by rw [HandSHeadRun.boot_ns]; rfl
    simp only [b1, up, Option.bind_some]
    have l1' := l1
    unfold looksH HandSHeadRun.looksF at l1'
    rw [l1']
  have oe : openEnds treeTable p w N = some s := by
    unfold openEnds
    rw [bo]
    exact tf
  show (openEnds treeTable p w N).map _ = _
  rw [oe]
  exact congrArg some (Prod.ext l2 l3)
theorem head_run {r : OpenRow} {q : Program} {K : Params → PySem.W.Frag} {as : List Addr} {ek : ∀ P, as = (K P).map (·.1)} {N : Nat} {loose : List PySem.Str} {d : DefRec} {kwd : List (PySem.Str × PySem.Expr)}
    (left : LeftO r.prog q loose (fun s => xlAt q [] s && recOk r.toRowW.records s) (kHook K as ek).obs (kHook K as ek).val N true)
    (hdef : defOf q r.name = some (d, kwd)) (hp : r.prog.theDef r.name = some (d.params, d.body, d.scope)) (hk : kwWritten? d.params.kwonlyargs d.params.kw_defaults = some kwd)
    (hwr : (!r.writes || r.records.isEmpty) = true) (k1 : r.wellSaid = true) (ok : (chainsOk q && opensWell r.prog && (frees r.toRowW && r.within.isEmpty)) = true) (hb : r.prog.bare) (hw : r.toRowW.promised)
    (call : WalkO q loose (XL q []) (kHook K as ek).says r.toRowW d kwd fun f vs => PySem.call f vs) : r.Holds :=
  holds_open left (kHook K as ek).of (kHook K as ek).keeps (fun s z => xl_of s ((Bool.and_eq_true_iff.mp z).1)) XL.keeps hdef hp hk
    (fun s z => recFacts_of ((Bool.and_eq_true_iff.mp z).2)) hwr k1 ok hb hw call
/-! the same, the tables of code objects told -/
theorem looks_runT {p q : Program} {w : World} {os : OsState} {loose : List PySem.Str} {Xt : Shared → Bool} {K : Params → PySem.W.Frag} {as : List Addr} {ek : ∀ P, as = (K P).map (·.1)} {ts : List Addr} {M n0 : Nat} {ann : Option Value} {s : SharedT}
    (r : topRun treeTable p w n0 ann M ⟨boot_heap w.params, #[], boot_drawn, boot_toks, os⟩ (topStub p) = some s.abs)
    (h : (looksH p (boot_heap w.params) s.abs, seenH q loose (importedModules p.main.body) Xt s.abs, as.map (HandSHeadRun.getT s), ts.map (HandSHeadRun.getT s)) = (true, openGood q loose, (K w.params).map (fun x => some x.2), ts.map fun _ => some (tabObj #[]))) :
    ∃ s : Shared, topRun treeTable p w n0 ann M ⟨boot_heap w.params, #[], boot_drawn, boot_toks, os⟩ (topStub p) = some s ∧ looksH p (boot_heap w.params) s = true ∧
      openSeen q loose (importedModules p.main.body) Xt true s = openGood q loose ∧ (kmHook K as ek ts).obs s = (kmHook K as ek ts).val w := by
  obtain ⟨h1, h2⟩ := Prod.mk.inj h
  obtain ⟨h2, h3⟩ := Prod.mk.inj h2
  obtain ⟨h3, h4⟩ := Prod.mk.inj h3
  refine ⟨_, r, h1, (HandSHeadRun.seenQ_eq ..).trans h2, Prod.ext (Eq.trans ?_ h3) (Eq.trans ?_ h4)⟩
  · exact List.map_congr_left fun a _ => (HandSHeadRun.getT_eq s a).symm
  · exact List.map_congr_left fun a _ => (HandSHeadRun.getT_eq s a).symm
theorem head_runT {r : OpenRow} {q : Program} {K : Params → PySem.W.Frag} {as : List Addr} {ek : ∀ P, as = (K P).map (·.1)} {ts : List Addr} {N : Nat} {loose : List PySem.Str} {d : DefRec} {kwd : List (PySem.Str × PySem.Expr)}
    (left : LeftO r.prog q loose (fun s => xlAt q [] s && recOk r.toRowW.records s) (kmHook K as ek ts).obs (kmHook K as ek ts).val N true)
    (hdef : defOf q r.name = some (d, kwd)) (hp : r.prog.theDef r.name = some (d.params, d.body, d.scope)) (hk : kwWritten? d.params.kwonlyargs d.params.kw_defaults = some kwd)
    (hwr : (!r.writes || r.records.isEmpty) = true) (k1 : r.wellSaid = true) (ok : (chainsOk q && opensWell r.prog && (frees r.toRowW && r.within.isEmpty)) = true) (hb : r.prog.bare) (hw : r.toRowW.promised)
    (call : WalkO q loose (XL q []) (kmHook K as ek ts).says r.toRowW d kwd fun f vs => PySem.call f vs) : r.Holds :=
  holds_open left (kmHook K as ek ts).of (kmHook K as ek ts).keeps (fun s z => xl_of s ((Bool.and_eq_true_iff.mp z).1)) XL.keeps hdef hp hk
    (fun s z => recFacts_of ((Bool.and_eq_true_iff.mp z).2)) hwr k1 ok hb hw call
end ZH
noncomputable section
namespace ZH
open PySem PySem.W PySem.Calls PyProof.Rows
abbrev RR : OpenRow := OpenLaw.row PySem.Challenge.rw_surenear_k70_names_belong_to_shards
abbrev pr : Program := RR.prog
def tS (i : Nat) : Stmt := pr.main.body.getD i (.Pass ⟨0, 0, 0, 0⟩)
def mS (i j : Nat) : Stmt := L2.inClass (tS i) j
def o11_0 (P : Params) : Obj := ⟨(.type "tuple"), none, (.seq #[] 0), #[]⟩
def o12_0 (P : Params) : Obj := ⟨.none, none, (.fields #[]), #[]⟩
def o13_0 (P : Params) : Obj := ⟨(.type "code"), none, (.fields #[(.str "<module>" 182), (.str "<module>" 183), (.str "/claim/cut.py" 184), (.int 1 0), (.int 0 0), (.int 0 0), (.int 0 0), (.int 0 0), (.ref 11), (.bool false), (.int 181 0), (.ref 12), .none, .none, .none, .none, (.int 185 0), (.int 1 0), (.str "/claim/cut.py" 186)]), #[]⟩
def o14_0 (P : Params) : Obj := ⟨(.type "frame"), none, .plain, #[(some (.ref 13)), (some (.ref 3)), (some (.ref 3)), none, (some (.str "__main__" 164)), none, (some (.ref 0))]⟩
def tA (P : Params) : BT := (nd (PySem.W.boot_o_0 P) (nd (PySem.W.boot_o_1 P) (nd (PySem.W.boot_o_3 P) (nd (PySem.W.boot_o_7 P) lf lf) (nd (o11_0 P) lf lf)) (nd (PySem.W.boot_o_5 P) (nd (PySem.W.boot_o_9 P) lf lf) (nd (o13_0 P) lf lf))) (nd (PySem.W.boot_o_2 P) (nd (PySem.W.boot_o_4 P) (nd (PySem.W.boot_o_8 P) lf lf) (nd (o12_0 P) lf lf)) (nd (PySem.W.boot_o_6 P) (nd (PySem.W.boot_o_10 P) lf lf) (nd (o14_0 P) lf lf))))
def sA (w : World) (os : OsState) : SharedT := ⟨tA w.params, 15, { }, #[], ⟨0, 0, 0, 0⟩, 187, os⟩
def annV : Option Value := (some (.ref 6))
abbrev bE : List Stmt := behindTheImports pr
def env : Env := { scope := pr.main.scope, locals := mainNs, globals := mainNs, cells := [], code := (.ref 13), frame := some 14 }
abbrev cE : Code := .body bE env
abbrev fB : List Frame := [topFrame ⟨0, 0, 0, 0⟩]
theorem pre (w : World) (os : OsState) : topGo treeTable pr w 11 annV 12 ⟨boot_heap w.params, #[], boot_drawn, boot_toks, os⟩ (topStub pr) = some ((sA w os).abs, ⟨denote treeTable cE, cE, ⟨0, 0, 0, 0⟩, fB⟩) := by kernel_rfl
theorem blk (w : World) (os : OsState) : segRun treeTable pr w 11 annV 1 1 (sA w os).abs (blockOf bE env cE ⟨0, 0, 0, 0⟩ fB) = some (.next, (sA w os).abs, cE, ⟨0, 0, 0, 0⟩) := by kernel_rfl
def o3_0 (P : Params) : Obj := ⟨(.type "dict"), none, (.dict (List.toArray (zd P "__name__" 165 (.str "surenear.ledger.ledger" 465) :: zd P "__doc__" 166 .none :: zd P "__package__" 167 .none :: zd P "__loader__" 168 (.builtin "__main__.__loader__#opaque") :: zd P "__spec__" 169 .none :: zd P "__annotations__" 170 (.ref 6) :: zd P "__builtins__" 171 (.ref 4) :: zd P "__file__" 173 (.str "/claim/cut.py" 172) :: zd P "__cached__" 174 .none :: zd P "_wall" 193 (.ref 21) :: zd P "SurenearError" 213 (.ref 31) :: zd P "InvalidSchema" 229 (.ref 44) :: zd P "InvalidRecord" 245 (.ref 56) :: zd P "InvalidKey" 261 (.ref 68) :: zd P "NotPinned" 277 (.ref 80) :: zd P "PRIME" 281 (.int 4294967291 280) :: zd P "string_part" 287 (.ref 87) :: zd P "value_part" 294 (.ref 94) :: zd P "row_of" 307 (.ref 101) :: zd P "check_key" 315 (.ref 108) :: zd P "fold" 325 (.ref 115) :: zd P "mark_of" 335 (.ref 122) :: zd P "Note" 426 (.ref 176) :: zd P "Segment" 464 (.ref 202) :: [])) 24), #[]⟩
def o12_1 (P : Params) : Obj := ⟨.none, none, (.fields (List.toArray ((.int 1 0) :: (.int 0 0) :: (.ref 20) :: (.int 5 0) :: (.int 0 0) :: (.ref 27) :: (.int 7 0) :: (.int 0 0) :: (.ref 40) :: (.int 9 0) :: (.int 0 0) :: (.ref 52) :: (.int 11 0) :: (.int 0 0) :: (.ref 64) :: (.int 13 0) :: (.int 0 0) :: (.ref 76) :: (.int 17 0) :: (.int 0 0) :: (.ref 86) :: (.int 19 0) :: (.int 0 0) :: (.ref 93) :: (.int 25 0) :: (.int 0 0) :: (.ref 100) :: (.int 33 0) :: (.int 0 0) :: (.ref 107) :: (.int 37 0) :: (.int 0 0) :: (.ref 114) :: (.int 42 0) :: (.int 0 0) :: (.ref 121) :: (.int 46 0) :: (.int 0 0) :: (.ref 128) :: (.int 77 0) :: (.int 0 0) :: (.ref 186) :: []))), #[]⟩
def o15_0 (P : Params) : Obj := ⟨(.type "tuple"), none, (.seq #[] 0), #[]⟩
def o16_0 (P : Params) : Obj := ⟨.none, none, (.fields #[]), #[]⟩
def o17_0 (P : Params) : Obj := ⟨(.type "tuple"), none, (.seq #[(.str "k" 190)] 0), #[]⟩
def o18_0 (P : Params) : Obj := ⟨(.type "tuple"), none, (.seq #[] 0), #[]⟩
def o19_0 (P : Params) : Obj := ⟨.none, none, (.func (zf (tS 0) "_wall" "_wall" 0 [] .none .none .none .none none .none .none 0)), #[]⟩
def o20_0 (P : Params) : Obj := ⟨(.type "code"), none, (.fields #[(.str "_wall" 187), (.str "_wall" 188), (.str "/claim/cut.py" 189), (.int 1 0), (.int 1 0), (.int 0 0), (.int 0 0), (.int 3 0), (.ref 15), (.bool true), (.int 181 0), (.ref 16), .none, (.ref 17), (.ref 18), (.ref 19), (.int 191 0), (.int 1 0), (.str "/claim/cut.py" 192)]), #[]⟩
def o21_0 (P : Params) : Obj := ⟨(.type "function"), none, (.func (zf (tS 0) "_wall" "_wall" 3 [] .none .none .none (.str "__main__" 164) none (.ref 20) .none 0)), #[]⟩
def o22_0 (P : Params) : Obj := ⟨(.type "tuple"), none, (.seq #[(.type "ValueError")] 0), #[]⟩
def o23_0 (P : Params) : Obj := ⟨(.type "builtin_function_or_method"), none, (.fields #[(.builtin "type.__prepare__"), (.type "type")]), #[]⟩
def o24_0 (P : Params) : Obj := ⟨(.type "dict"), none, (.dict #[zd P "__module__" 203 (.str "surenear.errors" 194), zd P "__qualname__" 205 (.str "SurenearError" 204), zd P "__firstlineno__" 207 (.int 5 206), zd P "__static_attributes__" 208 (.ref 29)] 4), #[]⟩
def o25_0 (P : Params) : Obj := ⟨(.type "tuple"), none, (.seq #[] 0), #[]⟩
def o26_0 (P : Params) : Obj := ⟨.none, none, (.fields #[]), #[]⟩
def o27_0 (P : Params) : Obj := ⟨(.type "code"), none, (.fields #[(.str "SurenearError" 198), (.str "SurenearError" 199), (.str "/claim/cut.py" 200), (.int 5 0), (.int 0 0), (.int 0 0), (.int 0 0), (.int 0 0), (.ref 25), (.bool false), (.int 181 0), (.ref 26), .none, .none, .none, .none, (.int 201 0), (.int 5 0), (.str "/claim/cut.py" 202)]), #[]⟩
def o28_0 (P : Params) : Obj := ⟨(.type "frame"), none, .plain, #[(some (.ref 27)), (some (.ref 3)), (some (.ref 24)), none, (some (.str "surenear.errors" 194)), none, (some (.ref 0))]⟩
def o29_0 (P : Params) : Obj := ⟨(.type "tuple"), none, (.seq #[] 0), #[]⟩
def o30_0 (P : Params) : Obj := ⟨(.type "dict"), none, (.dict #[zd P "__module__" 203 (.str "surenear.errors" 194), zd P "__firstlineno__" 207 (.int 5 206), zd P "__static_attributes__" 208 (.ref 29), zd P "__weakref__" 210 (.ref 32), zd P "__doc__" 211 .none] 3), #[]⟩
def o31_0 (P : Params) : Obj := ⟨(.type "type"), none, (.cls ⟨"SurenearError", [(.type "ValueError")], [(.ref 31), (.type "ValueError"), (.type "Exception"), (.type "BaseException"), (.type "object")], 30, "SurenearError", true, [], [(.ref 44), (.ref 56), (.ref 68), (.ref 80)], false, none, false⟩), #[(some (.ref 22)), none, (some (.str "SurenearError" 196)), (some (.str "SurenearError" 204)), (some (.builtin "ValueError.__new__")), (some (.bool true))]⟩
def o32_0 (P : Params) : Obj := ⟨(.type "getset_descriptor"), none, (.fields #[(.str "__weakref__" 209), (.ref 31), (.builtin "ExceptionGroup.__weakref__"), .none]), #[]⟩
def o33_0 (P : Params) : Obj := ⟨(.type "super"), none, (.fields #[(.ref 31), (.ref 31), (.ref 31)]), #[]⟩
def o34_0 (P : Params) : Obj := ⟨(.type "builtin_function_or_method"), none, (.fields #[(.builtin "object.__init_subclass__"), (.ref 31)]), #[]⟩
def o35_0 (P : Params) : Obj := ⟨(.type "tuple"), none, (.seq #[(.ref 31)] 0), #[]⟩
def o36_0 (P : Params) : Obj := ⟨(.type "builtin_function_or_method"), none, (.fields #[(.builtin "type.__prepare__"), (.type "type")]), #[]⟩
def o37_0 (P : Params) : Obj := ⟨(.type "dict"), none, (.dict #[zd P "__module__" 221 (.str "surenear.errors" 194), zd P "__qualname__" 223 (.str "InvalidSchema" 222), zd P "__firstlineno__" 225 (.int 7 224), zd P "__static_attributes__" 226 (.ref 42)] 4), #[]⟩
def o38_0 (P : Params) : Obj := ⟨(.type "tuple"), none, (.seq #[] 0), #[]⟩
def o39_0 (P : Params) : Obj := ⟨.none, none, (.fields #[]), #[]⟩
def o40_0 (P : Params) : Obj := ⟨(.type "code"), none, (.fields #[(.str "InvalidSchema" 216), (.str "InvalidSchema" 217), (.str "/claim/cut.py" 218), (.int 7 0), (.int 0 0), (.int 0 0), (.int 0 0), (.int 0 0), (.ref 38), (.bool false), (.int 181 0), (.ref 39), .none, .none, .none, .none, (.int 219 0), (.int 7 0), (.str "/claim/cut.py" 220)]), #[]⟩
def o41_0 (P : Params) : Obj := ⟨(.type "frame"), none, .plain, #[(some (.ref 40)), (some (.ref 3)), (some (.ref 37)), none, (some (.str "surenear.errors" 194)), none, (some (.ref 0))]⟩
def o42_0 (P : Params) : Obj := ⟨(.type "tuple"), none, (.seq #[] 0), #[]⟩
def o43_0 (P : Params) : Obj := ⟨(.type "dict"), none, (.dict #[zd P "__module__" 221 (.str "surenear.errors" 194), zd P "__firstlineno__" 225 (.int 7 224), zd P "__static_attributes__" 226 (.ref 42), zd P "__doc__" 227 .none] 2), #[]⟩
def o44_0 (P : Params) : Obj := ⟨(.type "type"), none, (.cls ⟨"InvalidSchema", [(.ref 31)], [(.ref 44), (.ref 31), (.type "ValueError"), (.type "Exception"), (.type "BaseException"), (.type "object")], 43, "InvalidSchema", true, [], [], false, none, false⟩), #[(some (.ref 35)), none, (some (.str "InvalidSchema" 214)), (some (.str "InvalidSchema" 222)), (some (.builtin "ValueError.__new__")), (some (.bool true))]⟩
def o45_0 (P : Params) : Obj := ⟨(.type "super"), none, (.fields #[(.ref 44), (.ref 44), (.ref 44)]), #[]⟩
def o46_0 (P : Params) : Obj := ⟨(.type "builtin_function_or_method"), none, (.fields #[(.builtin "object.__init_subclass__"), (.ref 44)]), #[]⟩
def o47_0 (P : Params) : Obj := ⟨(.type "tuple"), none, (.seq #[(.ref 31)] 0), #[]⟩
def o48_0 (P : Params) : Obj := ⟨(.type "builtin_function_or_method"), none, (.fields #[(.builtin "type.__prepare__"), (.type "type")]), #[]⟩
def o49_0 (P : Params) : Obj := ⟨(.type "dict"), none, (.dict #[zd P "__module__" 237 (.str "surenear.errors" 194), zd P "__qualname__" 239 (.str "InvalidRecord" 238), zd P "__firstlineno__" 241 (.int 9 240), zd P "__static_attributes__" 242 (.ref 54)] 4), #[]⟩
def o50_0 (P : Params) : Obj := ⟨(.type "tuple"), none, (.seq #[] 0), #[]⟩
def o51_0 (P : Params) : Obj := ⟨.none, none, (.fields #[]), #[]⟩
def o52_0 (P : Params) : Obj := ⟨(.type "code"), none, (.fields #[(.str "InvalidRecord" 232), (.str "InvalidRecord" 233), (.str "/claim/cut.py" 234), (.int 9 0), (.int 0 0), (.int 0 0), (.int 0 0), (.int 0 0), (.ref 50), (.bool false), (.int 181 0), (.ref 51), .none, .none, .none, .none, (.int 235 0), (.int 9 0), (.str "/claim/cut.py" 236)]), #[]⟩
def o53_0 (P : Params) : Obj := ⟨(.type "frame"), none, .plain, #[(some (.ref 52)), (some (.ref 3)), (some (.ref 49)), none, (some (.str "surenear.errors" 194)), none, (some (.ref 0))]⟩
def o54_0 (P : Params) : Obj := ⟨(.type "tuple"), none, (.seq #[] 0), #[]⟩
def o55_0 (P : Params) : Obj := ⟨(.type "dict"), none, (.dict #[zd P "__module__" 237 (.str "surenear.errors" 194), zd P "__firstlineno__" 241 (.int 9 240), zd P "__static_attributes__" 242 (.ref 54), zd P "__doc__" 243 .none] 2), #[]⟩
def o56_0 (P : Params) : Obj := ⟨(.type "type"), none, (.cls ⟨"InvalidRecord", [(.ref 31)], [(.ref 56), (.ref 31), (.type "ValueError"), (.type "Exception"), (.type "BaseException"), (.type "object")], 55, "InvalidRecord", true, [], [], false, none, false⟩), #[(some (.ref 47)), none, (some (.str "InvalidRecord" 230)), (some (.str "InvalidRecord" 238)), (some (.builtin "ValueError.__new__")), (some (.bool true))]⟩
def o57_0 (P : Params) : Obj := ⟨(.type "super"), none, (.fields #[(.ref 56), (.ref 56), (.ref 56)]), #[]⟩
def o58_0 (P : Params) : Obj := ⟨(.type "builtin_function_or_method"), none, (.fields #[(.builtin "object.__init_subclass__"), (.ref 56)]), #[]⟩
def o59_0 (P : Params) : Obj := ⟨(.type "tuple"), none, (.seq #[(.ref 31)] 0), #[]⟩
def o60_0 (P : Params) : Obj := ⟨(.type "builtin_function_or_method"), none, (.fields #[(.builtin "type.__prepare__"), (.type "type")]), #[]⟩
def o61_0 (P : Params) : Obj := ⟨(.type "dict"), none, (.dict #[zd P "__module__" 253 (.str "surenear.errors" 194), zd P "__qualname__" 255 (.str "InvalidKey" 254), zd P "__firstlineno__" 257 (.int 11 256), zd P "__static_attributes__" 258 (.ref 66)] 4), #[]⟩
def o62_0 (P : Params) : Obj := ⟨(.type "tuple"), none, (.seq #[] 0), #[]⟩
def o63_0 (P : Params) : Obj := ⟨.none, none, (.fields #[]), #[]⟩
def o64_0 (P : Params) : Obj := ⟨(.type "code"), none, (.fields #[(.str "InvalidKey" 248), (.str "InvalidKey" 249), (.str "/claim/cut.py" 250), (.int 11 0), (.int 0 0), (.int 0 0), (.int 0 0), (.int 0 0), (.ref 62), (.bool false), (.int 181 0), (.ref 63), .none, .none, .none, .none, (.int 251 0), (.int 11 0), (.str "/claim/cut.py" 252)]), #[]⟩
def o65_0 (P : Params) : Obj := ⟨(.type "frame"), none, .plain, #[(some (.ref 64)), (some (.ref 3)), (some (.ref 61)), none, (some (.str "surenear.errors" 194)), none, (some (.ref 0))]⟩
def o66_0 (P : Params) : Obj := ⟨(.type "tuple"), none, (.seq #[] 0), #[]⟩
def o67_0 (P : Params) : Obj := ⟨(.type "dict"), none, (.dict #[zd P "__module__" 253 (.str "surenear.errors" 194), zd P "__firstlineno__" 257 (.int 11 256), zd P "__static_attributes__" 258 (.ref 66), zd P "__doc__" 259 .none] 2), #[]⟩
def o68_0 (P : Params) : Obj := ⟨(.type "type"), none, (.cls ⟨"InvalidKey", [(.ref 31)], [(.ref 68), (.ref 31), (.type "ValueError"), (.type "Exception"), (.type "BaseException"), (.type "object")], 67, "InvalidKey", true, [], [], false, none, false⟩), #[(some (.ref 59)), none, (some (.str "InvalidKey" 246)), (some (.str "InvalidKey" 254)), (some (.builtin "ValueError.__new__")), (some (.bool true))]⟩
def o69_0 (P : Params) : Obj := ⟨(.type "super"), none, (.fields #[(.ref 68), (.ref 68), (.ref 68)]), #[]⟩
def o70_0 (P : Params) : Obj := ⟨(.type "builtin_function_or_method"), none, (.fields #[(.builtin "object.__init_subclass__"), (.ref 68)]), #[]⟩
def o71_0 (P : Params) : Obj := ⟨(.type "tuple"), none, (.seq #[(.ref 31)] 0), #[]⟩
def o72_0 (P : Params) : Obj := ⟨(.type "builtin_function_or_method"), none, (.fields #[(.builtin "type.__prepare__"), (.type "type")]), #[]⟩
def o73_0 (P : Params) : Obj := ⟨(.type "dict"), none, (.dict #[zd P "__module__" 269 (.str "surenear.errors" 194), zd P "__qualname__" 271 (.str "NotPinned" 270), zd P "__firstlineno__" 273 (.int 13 272), zd P "__static_attributes__" 274 (.ref 78)] 4), #[]⟩
def o74_0 (P : Params) : Obj := ⟨(.type "tuple"), none, (.seq #[] 0), #[]⟩
def o75_0 (P : Params) : Obj := ⟨.none, none, (.fields #[]), #[]⟩
def o76_0 (P : Params) : Obj := ⟨(.type "code"), none, (.fields #[(.str "NotPinned" 264), (.str "NotPinned" 265), (.str "/claim/cut.py" 266), (.int 13 0), (.int 0 0), (.int 0 0), (.int 0 0), (.int 0 0), (.ref 74), (.bool false), (.int 181 0), (.ref 75), .none, .none, .none, .none, (.int 267 0), (.int 13 0), (.str "/claim/cut.py" 268)]), #[]⟩
def o77_0 (P : Params) : Obj := ⟨(.type "frame"), none, .plain, #[(some (.ref 76)), (some (.ref 3)), (some (.ref 73)), none, (some (.str "surenear.errors" 194)), none, (some (.ref 0))]⟩
def o78_0 (P : Params) : Obj := ⟨(.type "tuple"), none, (.seq #[] 0), #[]⟩
def o79_0 (P : Params) : Obj := ⟨(.type "dict"), none, (.dict #[zd P "__module__" 269 (.str "surenear.errors" 194), zd P "__firstlineno__" 273 (.int 13 272), zd P "__static_attributes__" 274 (.ref 78), zd P "__doc__" 275 .none] 2), #[]⟩
def o80_0 (P : Params) : Obj := ⟨(.type "type"), none, (.cls ⟨"NotPinned", [(.ref 31)], [(.ref 80), (.ref 31), (.type "ValueError"), (.type "Exception"), (.type "BaseException"), (.type "object")], 79, "NotPinned", true, [], [], false, none, false⟩), #[(some (.ref 71)), none, (some (.str "NotPinned" 262)), (some (.str "NotPinned" 270)), (some (.builtin "ValueError.__new__")), (some (.bool true))]⟩
def o81_0 (P : Params) : Obj := ⟨(.type "super"), none, (.fields #[(.ref 80), (.ref 80), (.ref 80)]), #[]⟩
def o82_0 (P : Params) : Obj := ⟨(.type "builtin_function_or_method"), none, (.fields #[(.builtin "object.__init_subclass__"), (.ref 80)]), #[]⟩
def o83_0 (P : Params) : Obj := ⟨(.type "tuple"), none, (.seq #[] 0), #[]⟩
def o84_0 (P : Params) : Obj := ⟨.none, none, (.fields #[]), #[]⟩
def o85_0 (P : Params) : Obj := ⟨.none, none, (.func (zf (tS 9) "string_part" "string_part" 0 [] .none .none .none .none none .none .none 0)), #[]⟩
def o86_0 (P : Params) : Obj := ⟨(.type "code"), none, (.fields #[(.str "string_part" 282), (.str "string_part" 283), (.str "/claim/cut.py" 284), (.int 17 0), (.int 1 0), (.int 0 0), (.int 0 0), (.int 3 0), (.ref 83), (.bool true), (.int 181 0), (.ref 84), .none, .none, .none, (.ref 85), (.int 285 0), (.int 17 0), (.str "/claim/cut.py" 286)]), #[]⟩
def o87_0 (P : Params) : Obj := ⟨(.type "function"), none, (.func (zf (tS 9) "string_part" "string_part" 3 [] .none .none .none (.str "surenear.records.marks" 278) none (.ref 86) .none 0)), #[]⟩
def o88_0 (P : Params) : Obj := ⟨(.type "tuple"), none, (.seq #[] 0), #[]⟩
def o89_0 (P : Params) : Obj := ⟨.none, none, (.fields #[]), #[]⟩
def o90_0 (P : Params) : Obj := ⟨(.type "tuple"), none, (.seq #[(.str "worth" 291)] 0), #[]⟩
def o91_0 (P : Params) : Obj := ⟨(.type "tuple"), none, (.seq #[] 0), #[]⟩
def o92_0 (P : Params) : Obj := ⟨.none, none, (.func (zf (tS 10) "value_part" "value_part" 0 [] .none .none .none .none none .none .none 0)), #[]⟩
def o93_0 (P : Params) : Obj := ⟨(.type "code"), none, (.fields #[(.str "value_part" 288), (.str "value_part" 289), (.str "/claim/cut.py" 290), (.int 19 0), (.int 1 0), (.int 0 0), (.int 0 0), (.int 3 0), (.ref 88), (.bool true), (.int 181 0), (.ref 89), .none, (.ref 90), (.ref 91), (.ref 92), (.int 292 0), (.int 19 0), (.str "/claim/cut.py" 293)]), #[]⟩
def o94_0 (P : Params) : Obj := ⟨(.type "function"), none, (.func (zf (tS 10) "value_part" "value_part" 3 [] .none .none .none (.str "surenear.records.marks" 278) none (.ref 93) .none 0)), #[]⟩
def o95_0 (P : Params) : Obj := ⟨(.type "tuple"), none, (.seq #[] 0), #[]⟩
def o96_0 (P : Params) : Obj := ⟨.none, none, (.fields #[]), #[]⟩
def o97_0 (P : Params) : Obj := ⟨(.type "tuple"), none, (.seq #[(.str "number" 298), (.str "record" 299), (.str "row" 300), (.str "name" 301), (.str "worth" 302), (.str "word" 303), (.str "count" 304)] 0), #[]⟩
def o98_0 (P : Params) : Obj := ⟨(.type "tuple"), none, (.seq #[] 0), #[]⟩
def o99_0 (P : Params) : Obj := ⟨.none, none, (.func (zf (tS 11) "row_of" "row_of" 0 [] .none .none .none .none none .none .none 0)), #[]⟩
def o100_0 (P : Params) : Obj := ⟨(.type "code"), none, (.fields #[(.str "row_of" 295), (.str "row_of" 296), (.str "/claim/cut.py" 297), (.int 25 0), (.int 2 0), (.int 0 0), (.int 0 0), (.int 3 0), (.ref 95), (.bool true), (.int 181 0), (.ref 96), .none, (.ref 97), (.ref 98), (.ref 99), (.int 305 0), (.int 25 0), (.str "/claim/cut.py" 306)]), #[]⟩
def o101_0 (P : Params) : Obj := ⟨(.type "function"), none, (.func (zf (tS 11) "row_of" "row_of" 3 [] .none .none .none (.str "surenear.records.marks" 278) none (.ref 100) .none 0)), #[]⟩
def o102_0 (P : Params) : Obj := ⟨(.type "tuple"), none, (.seq #[] 0), #[]⟩
def o103_0 (P : Params) : Obj := ⟨.none, none, (.fields #[]), #[]⟩
def o104_0 (P : Params) : Obj := ⟨(.type "tuple"), none, (.seq #[(.str "key" 311), (.str "number" 312)] 0), #[]⟩
def o105_0 (P : Params) : Obj := ⟨(.type "tuple"), none, (.seq #[] 0), #[]⟩
def o106_0 (P : Params) : Obj := ⟨.none, none, (.func (zf (tS 12) "check_key" "check_key" 0 [] .none .none .none .none none .none .none 0)), #[]⟩
def o107_0 (P : Params) : Obj := ⟨(.type "code"), none, (.fields #[(.str "check_key" 308), (.str "check_key" 309), (.str "/claim/cut.py" 310), (.int 33 0), (.int 1 0), (.int 0 0), (.int 0 0), (.int 3 0), (.ref 102), (.bool true), (.int 181 0), (.ref 103), .none, (.ref 104), (.ref 105), (.ref 106), (.int 313 0), (.int 33 0), (.str "/claim/cut.py" 314)]), #[]⟩
def o108_0 (P : Params) : Obj := ⟨(.type "function"), none, (.func (zf (tS 12) "check_key" "check_key" 3 [] .none .none .none (.str "surenear.records.marks" 278) none (.ref 107) .none 0)), #[]⟩
def o109_0 (P : Params) : Obj := ⟨(.type "tuple"), none, (.seq #[] 0), #[]⟩
def o110_0 (P : Params) : Obj := ⟨.none, none, (.fields #[]), #[]⟩
def o111_0 (P : Params) : Obj := ⟨(.type "tuple"), none, (.seq #[(.str "row" 319), (.str "factor" 320), (.str "state" 321), (.str "number" 322)] 0), #[]⟩
def o112_0 (P : Params) : Obj := ⟨(.type "tuple"), none, (.seq #[] 0), #[]⟩
def o113_0 (P : Params) : Obj := ⟨.none, none, (.func (zf (tS 13) "fold" "fold" 0 [] .none .none .none .none none .none .none 0)), #[]⟩
def o114_0 (P : Params) : Obj := ⟨(.type "code"), none, (.fields #[(.str "fold" 316), (.str "fold" 317), (.str "/claim/cut.py" 318), (.int 37 0), (.int 2 0), (.int 0 0), (.int 0 0), (.int 3 0), (.ref 109), (.bool true), (.int 181 0), (.ref 110), .none, (.ref 111), (.ref 112), (.ref 113), (.int 323 0), (.int 37 0), (.str "/claim/cut.py" 324)]), #[]⟩
def o115_0 (P : Params) : Obj := ⟨(.type "function"), none, (.func (zf (tS 13) "fold" "fold" 3 [] .none .none .none (.str "surenear.records.marks" 278) none (.ref 114) .none 0)), #[]⟩
def o116_0 (P : Params) : Obj := ⟨(.type "tuple"), none, (.seq #[] 0), #[]⟩
def o117_0 (P : Params) : Obj := ⟨.none, none, (.fields #[]), #[]⟩
def o118_0 (P : Params) : Obj := ⟨(.type "tuple"), none, (.seq #[(.str "key" 329), (.str "number" 330), (.str "record" 331), (.str "row" 332)] 0), #[]⟩
def o119_0 (P : Params) : Obj := ⟨(.type "tuple"), none, (.seq #[] 0), #[]⟩
def o120_0 (P : Params) : Obj := ⟨.none, none, (.func (zf (tS 14) "mark_of" "mark_of" 0 [] .none .none .none .none none .none .none 0)), #[]⟩
def o121_0 (P : Params) : Obj := ⟨(.type "code"), none, (.fields #[(.str "mark_of" 326), (.str "mark_of" 327), (.str "/claim/cut.py" 328), (.int 42 0), (.int 3 0), (.int 0 0), (.int 0 0), (.int 3 0), (.ref 116), (.bool true), (.int 181 0), (.ref 117), .none, (.ref 118), (.ref 119), (.ref 120), (.int 333 0), (.int 42 0), (.str "/claim/cut.py" 334)]), #[]⟩
def o122_0 (P : Params) : Obj := ⟨(.type "function"), none, (.func (zf (tS 14) "mark_of" "mark_of" 3 [] .none .none .none (.str "surenear.records.marks" 278) none (.ref 121) .none 0)), #[]⟩
def o123_0 (P : Params) : Obj := ⟨(.type "tuple"), none, (.seq #[] 0), #[]⟩
def o124_0 (P : Params) : Obj := ⟨(.type "builtin_function_or_method"), none, (.fields #[(.builtin "type.__prepare__"), (.type "type")]), #[]⟩
def o125_0 (P : Params) : Obj := ⟨(.type "dict"), none, (.dict #[zd P "__module__" 345 (.str "surenear.ledger.note" 336), zd P "__qualname__" 347 (.str "Note" 346), zd P "__firstlineno__" 349 (.int 46 348), zd P "__init__" 367 (.ref 138), zd P "lives_at" 375 (.ref 145), zd P "matches" 385 (.ref 152), zd P "closed_by" 393 (.ref 159), zd P "owned" 402 (.ref 166), zd P "__eq__" 410 (.ref 173), zd P "__static_attributes__" 418 (.ref 174)] 10), #[]⟩
def o126_0 (P : Params) : Obj := ⟨(.type "tuple"), none, (.seq #[] 0), #[]⟩
def o127_0 (P : Params) : Obj := ⟨.none, none, (.fields #[(.int 48 0), (.int 4 0), (.ref 137), (.int 57 0), (.int 4 0), (.ref 144), (.int 60 0), (.int 4 0), (.ref 151), (.int 63 0), (.int 4 0), (.ref 158), (.int 66 0), (.int 4 0), (.ref 165), (.int 69 0), (.int 4 0), (.ref 172)]), #[]⟩
def o128_0 (P : Params) : Obj := ⟨(.type "code"), none, (.fields #[(.str "Note" 340), (.str "Note" 341), (.str "/claim/cut.py" 342), (.int 46 0), (.int 0 0), (.int 0 0), (.int 0 0), (.int 0 0), (.ref 126), (.bool false), (.int 181 0), (.ref 127), .none, .none, .none, .none, (.int 343 0), (.int 46 0), (.str "/claim/cut.py" 344)]), #[]⟩
def o129_0 (P : Params) : Obj := ⟨(.type "frame"), none, .plain, #[(some (.ref 128)), (some (.ref 3)), (some (.ref 125)), none, (some (.str "surenear.ledger.note" 336)), none, (some (.ref 0))]⟩
def o130_0 (P : Params) : Obj := ⟨(.type "tuple"), none, (.seq #[] 0), #[]⟩
def o131_0 (P : Params) : Obj := ⟨(.type "dict"), none, (.dict #[zd P "died" 350 .none, zd P "record" 351 .none, zd P "segment" 352 .none, zd P "leaves" 353 (.ref 130)] 4), #[]⟩
def o132_0 (P : Params) : Obj := ⟨(.type "tuple"), none, (.seq #[] 0), #[]⟩
def o133_0 (P : Params) : Obj := ⟨.none, none, (.fields #[]), #[]⟩
def o134_0 (P : Params) : Obj := ⟨(.type "tuple"), none, (.seq #[(.str "self" 357), (.str "name" 358), (.str "number" 359), (.str "mark" 360), (.str "died" 361), (.str "record" 362), (.str "segment" 363), (.str "leaves" 364)] 0), #[]⟩
def o135_0 (P : Params) : Obj := ⟨(.type "tuple"), none, (.seq #[] 0), #[]⟩
def o136_0 (P : Params) : Obj := ⟨.none, none, (.func (zf (mS 16 0) "__init__" "Note.__init__" 0 [] .none .none .none .none none .none .none 0)), #[]⟩
def o137_0 (P : Params) : Obj := ⟨(.type "code"), none, (.fields #[(.str "__init__" 354), (.str "Note.__init__" 355), (.str "/claim/cut.py" 356), (.int 48 0), (.int 4 0), (.int 0 0), (.int 4 0), (.int 3 0), (.ref 132), (.bool true), (.int 181 0), (.ref 133), .none, (.ref 134), (.ref 135), (.ref 136), (.int 365 0), (.int 48 0), (.str "/claim/cut.py" 366)]), #[]⟩
def o138_0 (P : Params) : Obj := ⟨(.type "function"), none, (.func (zf (mS 16 0) "__init__" "Note.__init__" 3 [] .none (.ref 131) .none (.str "surenear.ledger.note" 336) none (.ref 137) .none 0)), #[]⟩
def o139_0 (P : Params) : Obj := ⟨(.type "tuple"), none, (.seq #[] 0), #[]⟩
def o140_0 (P : Params) : Obj := ⟨.none, none, (.fields #[]), #[]⟩
def o141_0 (P : Params) : Obj := ⟨(.type "tuple"), none, (.seq #[(.str "self" 371), (.str "moment" 372)] 0), #[]⟩
def o142_0 (P : Params) : Obj := ⟨(.type "tuple"), none, (.seq #[] 0), #[]⟩
def o143_0 (P : Params) : Obj := ⟨.none, none, (.func (zf (mS 16 1) "lives_at" "Note.lives_at" 0 [] .none .none .none .none none .none .none 0)), #[]⟩
def o144_0 (P : Params) : Obj := ⟨(.type "code"), none, (.fields #[(.str "lives_at" 368), (.str "Note.lives_at" 369), (.str "/claim/cut.py" 370), (.int 57 0), (.int 2 0), (.int 0 0), (.int 0 0), (.int 3 0), (.ref 139), (.bool true), (.int 181 0), (.ref 140), .none, (.ref 141), (.ref 142), (.ref 143), (.int 373 0), (.int 57 0), (.str "/claim/cut.py" 374)]), #[]⟩
def o145_0 (P : Params) : Obj := ⟨(.type "function"), none, (.func (zf (mS 16 1) "lives_at" "Note.lives_at" 3 [] .none .none .none (.str "surenear.ledger.note" 336) none (.ref 144) .none 0)), #[]⟩
def o146_0 (P : Params) : Obj := ⟨(.type "tuple"), none, (.seq #[] 0), #[]⟩
def o147_0 (P : Params) : Obj := ⟨.none, none, (.fields #[]), #[]⟩
def o148_0 (P : Params) : Obj := ⟨(.type "tuple"), none, (.seq #[(.str "self" 379), (.str "key" 380), (.str "number" 381), (.str "record" 382)] 0), #[]⟩
def o149_0 (P : Params) : Obj := ⟨(.type "tuple"), none, (.seq #[] 0), #[]⟩
def o150_0 (P : Params) : Obj := ⟨.none, none, (.func (zf (mS 16 2) "matches" "Note.matches" 0 [] .none .none .none .none none .none .none 0)), #[]⟩
def o151_0 (P : Params) : Obj := ⟨(.type "code"), none, (.fields #[(.str "matches" 376), (.str "Note.matches" 377), (.str "/claim/cut.py" 378), (.int 60 0), (.int 4 0), (.int 0 0), (.int 0 0), (.int 3 0), (.ref 146), (.bool true), (.int 181 0), (.ref 147), .none, (.ref 148), (.ref 149), (.ref 150), (.int 383 0), (.int 60 0), (.str "/claim/cut.py" 384)]), #[]⟩
def o152_0 (P : Params) : Obj := ⟨(.type "function"), none, (.func (zf (mS 16 2) "matches" "Note.matches" 3 [] .none .none .none (.str "surenear.ledger.note" 336) none (.ref 151) .none 0)), #[]⟩
def o153_0 (P : Params) : Obj := ⟨(.type "tuple"), none, (.seq #[] 0), #[]⟩
def o154_0 (P : Params) : Obj := ⟨.none, none, (.fields #[]), #[]⟩
def o155_0 (P : Params) : Obj := ⟨(.type "tuple"), none, (.seq #[(.str "self" 389), (.str "number" 390)] 0), #[]⟩
def o156_0 (P : Params) : Obj := ⟨(.type "tuple"), none, (.seq #[] 0), #[]⟩
def o157_0 (P : Params) : Obj := ⟨.none, none, (.func (zf (mS 16 3) "closed_by" "Note.closed_by" 0 [] .none .none .none .none none .none .none 0)), #[]⟩
def o158_0 (P : Params) : Obj := ⟨(.type "code"), none, (.fields #[(.str "closed_by" 386), (.str "Note.closed_by" 387), (.str "/claim/cut.py" 388), (.int 63 0), (.int 2 0), (.int 0 0), (.int 0 0), (.int 3 0), (.ref 153), (.bool true), (.int 181 0), (.ref 154), .none, (.ref 155), (.ref 156), (.ref 157), (.int 391 0), (.int 63 0), (.str "/claim/cut.py" 392)]), #[]⟩
def o159_0 (P : Params) : Obj := ⟨(.type "function"), none, (.func (zf (mS 16 3) "closed_by" "Note.closed_by" 3 [] .none .none .none (.str "surenear.ledger.note" 336) none (.ref 158) .none 0)), #[]⟩
def o160_0 (P : Params) : Obj := ⟨(.type "tuple"), none, (.seq #[] 0), #[]⟩
def o161_0 (P : Params) : Obj := ⟨.none, none, (.fields #[]), #[]⟩
def o162_0 (P : Params) : Obj := ⟨(.type "tuple"), none, (.seq #[(.str "self" 397), (.str "segment" 398), (.str "leaves" 399)] 0), #[]⟩
def o163_0 (P : Params) : Obj := ⟨(.type "tuple"), none, (.seq #[] 0), #[]⟩
def o164_0 (P : Params) : Obj := ⟨.none, none, (.func (zf (mS 16 4) "owned" "Note.owned" 0 [] .none .none .none .none none .none .none 0)), #[]⟩
def o165_0 (P : Params) : Obj := ⟨(.type "code"), none, (.fields #[(.str "owned" 394), (.str "Note.owned" 395), (.str "/claim/cut.py" 396), (.int 66 0), (.int 3 0), (.int 0 0), (.int 0 0), (.int 3 0), (.ref 160), (.bool true), (.int 181 0), (.ref 161), .none, (.ref 162), (.ref 163), (.ref 164), (.int 400 0), (.int 66 0), (.str "/claim/cut.py" 401)]), #[]⟩
def o166_0 (P : Params) : Obj := ⟨(.type "function"), none, (.func (zf (mS 16 4) "owned" "Note.owned" 3 [] .none .none .none (.str "surenear.ledger.note" 336) none (.ref 165) .none 0)), #[]⟩
def o167_0 (P : Params) : Obj := ⟨(.type "tuple"), none, (.seq #[] 0), #[]⟩
def o168_0 (P : Params) : Obj := ⟨.none, none, (.fields #[]), #[]⟩
def o169_0 (P : Params) : Obj := ⟨(.type "tuple"), none, (.seq #[(.str "self" 406), (.str "other" 407)] 0), #[]⟩
def o170_0 (P : Params) : Obj := ⟨(.type "tuple"), none, (.seq #[] 0), #[]⟩
def o171_0 (P : Params) : Obj := ⟨.none, none, (.func (zf (mS 16 5) "__eq__" "Note.__eq__" 0 [] .none .none .none .none none .none .none 0)), #[]⟩
def o172_0 (P : Params) : Obj := ⟨(.type "code"), none, (.fields #[(.str "__eq__" 403), (.str "Note.__eq__" 404), (.str "/claim/cut.py" 405), (.int 69 0), (.int 2 0), (.int 0 0), (.int 0 0), (.int 3 0), (.ref 167), (.bool true), (.int 181 0), (.ref 168), .none, (.ref 169), (.ref 170), (.ref 171), (.int 408 0), (.int 69 0), (.str "/claim/cut.py" 409)]), #[]⟩
def o173_0 (P : Params) : Obj := ⟨(.type "function"), none, (.func (zf (mS 16 5) "__eq__" "Note.__eq__" 3 [] .none .none .none (.str "surenear.ledger.note" 336) none (.ref 172) .none 0)), #[]⟩
def o174_0 (P : Params) : Obj := ⟨(.type "tuple"), none, (.seq #[(.str "died" 411), (.str "leaves" 412), (.str "mark" 413), (.str "name" 414), (.str "number" 415), (.str "record" 416), (.str "segment" 417)] 0), #[]⟩
def o175_0 (P : Params) : Obj := ⟨(.type "dict"), none, (.dict #[zd P "__module__" 345 (.str "surenear.ledger.note" 336), zd P "__firstlineno__" 349 (.int 46 348), zd P "__init__" 367 (.ref 138), zd P "lives_at" 375 (.ref 145), zd P "matches" 385 (.ref 152), zd P "closed_by" 393 (.ref 159), zd P "owned" 402 (.ref 166), zd P "__eq__" 410 (.ref 173), zd P "__static_attributes__" 418 (.ref 174), zd P "__dict__" 420 (.ref 177), zd P "__weakref__" 422 (.ref 178), zd P "__doc__" 423 .none, zd P "__hash__" 424 .none] 5), #[]⟩
def o176_0 (P : Params) : Obj := ⟨(.type "type"), none, (.cls ⟨"Note", [(.type "object")], [(.ref 176), (.type "object")], 175, "Note", true, [], [], false, none, false⟩), #[none, none, (some (.str "Note" 338)), (some (.str "Note" 346)), (some (.builtin "object.__new__")), (some (.bool true))]⟩
def o177_0 (P : Params) : Obj := ⟨(.type "getset_descriptor"), none, (.fields #[(.str "__dict__" 419), (.ref 176), (.builtin "function.__dict__"), (.builtin "function.__dict__#set")]), #[]⟩
def o178_0 (P : Params) : Obj := ⟨(.type "getset_descriptor"), none, (.fields #[(.str "__weakref__" 421), (.ref 176), (.builtin "ExceptionGroup.__weakref__"), .none]), #[]⟩
def o179_0 (P : Params) : Obj := ⟨(.type "super"), none, (.fields #[(.ref 176), (.ref 176), (.ref 176)]), #[]⟩
def o180_0 (P : Params) : Obj := ⟨(.type "builtin_function_or_method"), none, (.fields #[(.builtin "object.__init_subclass__"), (.ref 176)]), #[]⟩
def o181_0 (P : Params) : Obj := ⟨(.type "tuple"), none, (.seq #[] 0), #[]⟩
def o182_0 (P : Params) : Obj := ⟨(.type "builtin_function_or_method"), none, (.fields #[(.builtin "type.__prepare__"), (.type "type")]), #[]⟩
def o183_0 (P : Params) : Obj := ⟨(.type "dict"), none, (.dict #[zd P "__module__" 434 (.str "surenear.ledger.note" 336), zd P "__qualname__" 436 (.str "Segment" 435), zd P "__firstlineno__" 438 (.int 77 437), zd P "__init__" 444 (.ref 192), zd P "__eq__" 452 (.ref 199), zd P "__static_attributes__" 456 (.ref 200)] 6), #[]⟩
def o184_0 (P : Params) : Obj := ⟨(.type "tuple"), none, (.seq #[] 0), #[]⟩
def o185_0 (P : Params) : Obj := ⟨.none, none, (.fields #[(.int 79 0), (.int 4 0), (.ref 191), (.int 84 0), (.int 4 0), (.ref 198)]), #[]⟩
def o186_0 (P : Params) : Obj := ⟨(.type "code"), none, (.fields #[(.str "Segment" 429), (.str "Segment" 430), (.str "/claim/cut.py" 431), (.int 77 0), (.int 0 0), (.int 0 0), (.int 0 0), (.int 0 0), (.ref 184), (.bool false), (.int 181 0), (.ref 185), .none, .none, .none, .none, (.int 432 0), (.int 77 0), (.str "/claim/cut.py" 433)]), #[]⟩
def o187_0 (P : Params) : Obj := ⟨(.type "frame"), none, .plain, #[(some (.ref 186)), (some (.ref 3)), (some (.ref 183)), none, (some (.str "surenear.ledger.note" 336)), none, (some (.ref 0))]⟩
def o188_0 (P : Params) : Obj := ⟨(.type "tuple"), none, (.seq #[] 0), #[]⟩
def o189_0 (P : Params) : Obj := ⟨.none, none, (.fields #[]), #[]⟩
def o190_0 (P : Params) : Obj := ⟨.none, none, (.func (zf (mS 17 0) "__init__" "Segment.__init__" 0 [] .none .none .none .none none .none .none 0)), #[]⟩
def o191_0 (P : Params) : Obj := ⟨(.type "code"), none, (.fields #[(.str "__init__" 439), (.str "Segment.__init__" 440), (.str "/claim/cut.py" 441), (.int 79 0), (.int 4 0), (.int 0 0), (.int 0 0), (.int 3 0), (.ref 188), (.bool true), (.int 181 0), (.ref 189), .none, .none, .none, (.ref 190), (.int 442 0), (.int 79 0), (.str "/claim/cut.py" 443)]), #[]⟩
def o192_0 (P : Params) : Obj := ⟨(.type "function"), none, (.func (zf (mS 17 0) "__init__" "Segment.__init__" 3 [] .none .none .none (.str "surenear.ledger.note" 336) none (.ref 191) .none 0)), #[]⟩
def o193_0 (P : Params) : Obj := ⟨(.type "tuple"), none, (.seq #[] 0), #[]⟩
def o194_0 (P : Params) : Obj := ⟨.none, none, (.fields #[]), #[]⟩
def o195_0 (P : Params) : Obj := ⟨(.type "tuple"), none, (.seq #[(.str "self" 448), (.str "other" 449)] 0), #[]⟩
def o196_0 (P : Params) : Obj := ⟨(.type "tuple"), none, (.seq #[] 0), #[]⟩
def o197_0 (P : Params) : Obj := ⟨.none, none, (.func (zf (mS 17 1) "__eq__" "Segment.__eq__" 0 [] .none .none .none .none none .none .none 0)), #[]⟩
def o198_0 (P : Params) : Obj := ⟨(.type "code"), none, (.fields #[(.str "__eq__" 445), (.str "Segment.__eq__" 446), (.str "/claim/cut.py" 447), (.int 84 0), (.int 2 0), (.int 0 0), (.int 0 0), (.int 3 0), (.ref 193), (.bool true), (.int 181 0), (.ref 194), .none, (.ref 195), (.ref 196), (.ref 197), (.int 450 0), (.int 84 0), (.str "/claim/cut.py" 451)]), #[]⟩
def o199_0 (P : Params) : Obj := ⟨(.type "function"), none, (.func (zf (mS 17 1) "__eq__" "Segment.__eq__" 3 [] .none .none .none (.str "surenear.ledger.note" 336) none (.ref 198) .none 0)), #[]⟩
def o200_0 (P : Params) : Obj := ⟨(.type "tuple"), none, (.seq #[(.str "number" 453), (.str "partitions" 454), (.str "shard" 455)] 0), #[]⟩
def o201_0 (P : Params) : Obj := ⟨(.type "dict"), none, (.dict #[zd P "__module__" 434 (.str "surenear.ledger.note" 336), zd P "__firstlineno__" 438 (.int 77 437), zd P "__init__" 444 (.ref 192), zd P "__eq__" 452 (.ref 199), zd P "__static_attributes__" 456 (.ref 200), zd P "__dict__" 458 (.ref 203), zd P "__weakref__" 460 (.ref 204), zd P "__doc__" 461 .none, zd P "__hash__" 462 .none] 5), #[]⟩
def o202_0 (P : Params) : Obj := ⟨(.type "type"), none, (.cls ⟨"Segment", [(.type "object")], [(.ref 202), (.type "object")], 201, "Segment", true, [], [], false, none, false⟩), #[none, none, (some (.str "Segment" 427)), (some (.str "Segment" 435)), (some (.builtin "object.__new__")), (some (.bool true))]⟩
def o203_0 (P : Params) : Obj := ⟨(.type "getset_descriptor"), none, (.fields #[(.str "__dict__" 457), (.ref 202), (.builtin "function.__dict__"), (.builtin "function.__dict__#set")]), #[]⟩
def o204_0 (P : Params) : Obj := ⟨(.type "getset_descriptor"), none, (.fields #[(.str "__weakref__" 459), (.ref 202), (.builtin "ExceptionGroup.__weakref__"), .none]), #[]⟩
def o205_0 (P : Params) : Obj := ⟨(.type "super"), none, (.fields #[(.ref 202), (.ref 202), (.ref 202)]), #[]⟩
def o206_0 (P : Params) : Obj := ⟨(.type "builtin_function_or_method"), none, (.fields #[(.builtin "object.__init_subclass__"), (.ref 202)]), #[]⟩
def t1 (P : Params) : BT := (nd (PySem.W.boot_o_0 P) (nd (PySem.W.boot_o_1 P) (nd (o3_0 P) (nd (PySem.W.boot_o_7 P) (nd (o15_0 P) (nd (o31_0 P) (nd (o63_0 P) (nd (o127_0 P) lf lf) (nd (o191_0 P) lf lf)) (nd (o95_0 P) (nd (o159_0 P) lf lf) lf)) (nd (o47_0 P) (nd (o79_0 P) (nd (o143_0 P) lf lf) lf) (nd (o111_0 P) (nd (o175_0 P) lf lf) lf))) (nd (o23_0 P) (nd (o39_0 P) (nd (o71_0 P) (nd (o135_0 P) lf lf) (nd (o199_0 P) lf lf)) (nd (o103_0 P) (nd (o167_0 P) lf lf) lf)) (nd (o55_0 P) (nd (o87_0 P) (nd (o151_0 P) lf lf) lf) (nd (o119_0 P) (nd (o183_0 P) lf lf) lf)))) (nd (o11_0 P) (nd (o19_0 P) (nd (o35_0 P) (nd (o67_0 P) (nd (o131_0 P) lf lf) (nd (o195_0 P) lf lf)) (nd (o99_0 P) (nd (o163_0 P) lf lf) lf)) (nd (o51_0 P) (nd (o83_0 P) (nd (o147_0 P) lf lf) lf) (nd (o115_0 P) (nd (o179_0 P) lf lf) lf))) (nd (o27_0 P) (nd (o43_0 P) (nd (o75_0 P) (nd (o139_0 P) lf lf) (nd (o203_0 P) lf lf)) (nd (o107_0 P) (nd (o171_0 P) lf lf) lf)) (nd (o59_0 P) (nd (o91_0 P) (nd (o155_0 P) lf lf) lf) (nd (o123_0 P) (nd (o187_0 P) lf lf) lf))))) (nd (PySem.W.boot_o_5 P) (nd (PySem.W.boot_o_9 P) (nd (o17_0 P) (nd (o33_0 P) (nd (o65_0 P) (nd (o129_0 P) lf lf) (nd (o193_0 P) lf lf)) (nd (o97_0 P) (nd (o161_0 P) lf lf) lf)) (nd (o49_0 P) (nd (o81_0 P) (nd (o145_0 P) lf lf) lf) (nd (o113_0 P) (nd (o177_0 P) lf lf) lf))) (nd (o25_0 P) (nd (o41_0 P) (nd (o73_0 P) (nd (o137_0 P) lf lf) (nd (o201_0 P) lf lf)) (nd (o105_0 P) (nd (o169_0 P) lf lf) lf)) (nd (o57_0 P) (nd (o89_0 P) (nd (o153_0 P) lf lf) lf) (nd (o121_0 P) (nd (o185_0 P) lf lf) lf)))) (nd (o13_0 P) (nd (o21_0 P) (nd (o37_0 P) (nd (o69_0 P) (nd (o133_0 P) lf lf) (nd (o197_0 P) lf lf)) (nd (o101_0 P) (nd (o165_0 P) lf lf) lf)) (nd (o53_0 P) (nd (o85_0 P) (nd (o149_0 P) lf lf) lf) (nd (o117_0 P) (nd (o181_0 P) lf lf) lf))) (nd (o29_0 P) (nd (o45_0 P) (nd (o77_0 P) (nd (o141_0 P) lf lf) (nd (o205_0 P) lf lf)) (nd (o109_0 P) (nd (o173_0 P) lf lf) lf)) (nd (o61_0 P) (nd (o93_0 P) (nd (o157_0 P) lf lf) lf) (nd (o125_0 P) (nd (o189_0 P) lf lf) lf)))))) (nd (PySem.W.boot_o_2 P) (nd (PySem.W.boot_o_4 P) (nd (PySem.W.boot_o_8 P) (nd (o16_0 P) (nd (o32_0 P) (nd (o64_0 P) (nd (o128_0 P) lf lf) (nd (o192_0 P) lf lf)) (nd (o96_0 P) (nd (o160_0 P) lf lf) lf)) (nd (o48_0 P) (nd (o80_0 P) (nd (o144_0 P) lf lf) lf) (nd (o112_0 P) (nd (o176_0 P) lf lf) lf))) (nd (o24_0 P) (nd (o40_0 P) (nd (o72_0 P) (nd (o136_0 P) lf lf) (nd (o200_0 P) lf lf)) (nd (o104_0 P) (nd (o168_0 P) lf lf) lf)) (nd (o56_0 P) (nd (o88_0 P) (nd (o152_0 P) lf lf) lf) (nd (o120_0 P) (nd (o184_0 P) lf lf) lf)))) (nd (o12_1 P) (nd (o20_0 P) (nd (o36_0 P) (nd (o68_0 P) (nd (o132_0 P) lf lf) (nd (o196_0 P) lf lf)) (nd (o100_0 P) (nd (o164_0 P) lf lf) lf)) (nd (o52_0 P) (nd (o84_0 P) (nd (o148_0 P) lf lf) lf) (nd (o116_0 P) (nd (o180_0 P) lf lf) lf))) (nd (o28_0 P) (nd (o44_0 P) (nd (o76_0 P) (nd (o140_0 P) lf lf) (nd (o204_0 P) lf lf)) (nd (o108_0 P) (nd (o172_0 P) lf lf) lf)) (nd (o60_0 P) (nd (o92_0 P) (nd (o156_0 P) lf lf) lf) (nd (o124_0 P) (nd (o188_0 P) lf lf) lf))))) (nd (PySem.W.boot_o_6 P) (nd (PySem.W.boot_o_10 P) (nd (o18_0 P) (nd (o34_0 P) (nd (o66_0 P) (nd (o130_0 P) lf lf) (nd (o194_0 P) lf lf)) (nd (o98_0 P) (nd (o162_0 P) lf lf) lf)) (nd (o50_0 P) (nd (o82_0 P) (nd (o146_0 P) lf lf) lf) (nd (o114_0 P) (nd (o178_0 P) lf lf) lf))) (nd (o26_0 P) (nd (o42_0 P) (nd (o74_0 P) (nd (o138_0 P) lf lf) (nd (o202_0 P) lf lf)) (nd (o106_0 P) (nd (o170_0 P) lf lf) lf)) (nd (o58_0 P) (nd (o90_0 P) (nd (o154_0 P) lf lf) lf) (nd (o122_0 P) (nd (o186_0 P) lf lf) lf)))) (nd (o14_0 P) (nd (o22_0 P) (nd (o38_0 P) (nd (o70_0 P) (nd (o134_0 P) lf lf) (nd (o198_0 P) lf lf)) (nd (o102_0 P) (nd (o166_0 P) lf lf) lf)) (nd (o54_0 P) (nd (o86_0 P) (nd (o150_0 P) lf lf) lf) (nd (o118_0 P) (nd (o182_0 P) lf lf) lf))) (nd (o30_0 P) (nd (o46_0 P) (nd (o78_0 P) (nd (o142_0 P) lf lf) (nd (o206_0 P) lf lf)) (nd (o110_0 P) (nd (o174_0 P) lf lf) lf)) (nd (o62_0 P) (nd (o94_0 P) (nd (o158_0 P) lf lf) lf) (nd (o126_0 P) (nd (o190_0 P) lf lf) lf)))))))
def s1 (w : World) (os : OsState) : SharedT := ⟨t1 w.params, 207, { }, #[], ⟨0, 0, 0, 0⟩, 467, os⟩
abbrev l1 : List Stmt := (bE.drop 0).take 19
theorem seg1 (w : World) (os : OsState) : segRunT treeTable pr w 11 annV 1 1977 (sA w os) (piecesOf l1 env cE ⟨0, 0, 0, 0⟩ fB) = some (.next, s1 w os, cE, ⟨88, 0, 88, 8⟩) := seg_q (by kernel_rfl)
def o3_1 (P : Params) : Obj := ⟨(.type "dict"), none, (.dict (List.toArray (zd P "__name__" 165 (.str "surenear.records.schema" 791) :: zd P "__doc__" 166 .none :: zd P "__package__" 167 .none :: zd P "__loader__" 168 (.builtin "__main__.__loader__#opaque") :: zd P "__spec__" 169 .none :: zd P "__annotations__" 170 (.ref 6) :: zd P "__builtins__" 171 (.ref 4) :: zd P "__file__" 173 (.str "/claim/cut.py" 172) :: zd P "__cached__" 174 .none :: zd P "_wall" 193 (.ref 21) :: zd P "SurenearError" 213 (.ref 31) :: zd P "InvalidSchema" 229 (.ref 44) :: zd P "InvalidRecord" 245 (.ref 56) :: zd P "InvalidKey" 261 (.ref 68) :: zd P "NotPinned" 277 (.ref 80) :: zd P "PRIME" 281 (.int 4294967291 280) :: zd P "string_part" 287 (.ref 87) :: zd P "value_part" 294 (.ref 94) :: zd P "row_of" 307 (.ref 101) :: zd P "check_key" 315 (.ref 108) :: zd P "fold" 325 (.ref 115) :: zd P "mark_of" 335 (.ref 122) :: zd P "Note" 426 (.ref 176) :: zd P "Segment" 464 (.ref 202) :: zd P "Ledger" 641 (.ref 341) :: zd P "put_route" 649 (.ref 350) :: zd P "Catalog" 790 (.ref 447) :: [])) 27), #[]⟩
def o12_2 (P : Params) : Obj := ⟨.none, none, (.fields (List.toArray ((.int 1 0) :: (.int 0 0) :: (.ref 20) :: (.int 5 0) :: (.int 0 0) :: (.ref 27) :: (.int 7 0) :: (.int 0 0) :: (.ref 40) :: (.int 9 0) :: (.int 0 0) :: (.ref 52) :: (.int 11 0) :: (.int 0 0) :: (.ref 64) :: (.int 13 0) :: (.int 0 0) :: (.ref 76) :: (.int 17 0) :: (.int 0 0) :: (.ref 86) :: (.int 19 0) :: (.int 0 0) :: (.ref 93) :: (.int 25 0) :: (.int 0 0) :: (.ref 100) :: (.int 33 0) :: (.int 0 0) :: (.ref 107) :: (.int 37 0) :: (.int 0 0) :: (.ref 114) :: (.int 42 0) :: (.int 0 0) :: (.ref 121) :: (.int 46 0) :: (.int 0 0) :: (.ref 128) :: (.int 77 0) :: (.int 0 0) :: (.ref 186) :: (.int 89 0) :: (.int 0 0) :: (.ref 212) :: (.int 192 0) :: (.int 0 0) :: (.ref 349) :: (.int 195 0) :: (.int 0 0) :: (.ref 356) :: []))), #[]⟩
def o207_0 (P : Params) : Obj := ⟨(.type "tuple"), none, (.seq #[] 0), #[]⟩
def o208_0 (P : Params) : Obj := ⟨(.type "builtin_function_or_method"), none, (.fields #[(.builtin "type.__prepare__"), (.type "type")]), #[]⟩
def o209_0 (P : Params) : Obj := ⟨(.type "dict"), none, (.dict (List.toArray (zd P "__module__" 474 (.str "surenear.ledger.ledger" 465) :: zd P "__qualname__" 476 (.str "Ledger" 475) :: zd P "__firstlineno__" 478 (.int 89 477) :: zd P "__init__" 487 (.ref 220) :: zd P "twin" 494 (.ref 227) :: zd P "keeps" 502 (.ref 234) :: zd P "is_needed" 508 (.ref 239) :: zd P "tidy" 514 (.ref 244) :: zd P "note_of" 523 (.ref 251) :: zd P "end" 529 (.ref 256) :: zd P "put" 538 (.ref 263) :: zd P "drop" 546 (.ref 270) :: zd P "pin" 553 (.ref 277) :: zd P "unpin" 562 (.ref 284) :: zd P "lift" 570 (.ref 291) :: zd P "would_take" 578 (.ref 298) :: zd P "audit" 587 (.ref 305) :: zd P "own" 593 (.ref 310) :: zd P "live" 601 (.ref 317) :: zd P "segment_of" 610 (.ref 324) :: zd P "owned_by" 618 (.ref 331) :: zd P "fresh" 625 (.ref 338) :: zd P "__static_attributes__" 634 (.ref 339) :: [])) 23), #[]⟩
def o210_0 (P : Params) : Obj := ⟨(.type "tuple"), none, (.seq #[] 0), #[]⟩
def o211_0 (P : Params) : Obj := ⟨.none, none, (.fields (List.toArray ((.int 91 0) :: (.int 4 0) :: (.ref 219) :: (.int 102 0) :: (.int 4 0) :: (.ref 226) :: (.int 105 0) :: (.int 4 0) :: (.ref 233) :: (.int 108 0) :: (.int 4 0) :: (.ref 238) :: (.int 113 0) :: (.int 4 0) :: (.ref 243) :: (.int 118 0) :: (.int 4 0) :: (.ref 250) :: (.int 124 0) :: (.int 4 0) :: (.ref 255) :: (.int 127 0) :: (.int 4 0) :: (.ref 262) :: (.int 136 0) :: (.int 4 0) :: (.ref 269) :: (.int 144 0) :: (.int 4 0) :: (.ref 276) :: (.int 148 0) :: (.int 4 0) :: (.ref 283) :: (.int 155 0) :: (.int 4 0) :: (.ref 290) :: (.int 160 0) :: (.int 4 0) :: (.ref 297) :: (.int 163 0) :: (.int 4 0) :: (.ref 304) :: (.int 166 0) :: (.int 4 0) :: (.ref 309) :: (.int 177 0) :: (.int 4 0) :: (.ref 316) :: (.int 180 0) :: (.int 4 0) :: (.ref 323) :: (.int 186 0) :: (.int 4 0) :: (.ref 330) :: (.int 189 0) :: (.int 4 0) :: (.ref 337) :: []))), #[]⟩
def o212_0 (P : Params) : Obj := ⟨(.type "code"), none, (.fields #[(.str "Ledger" 469), (.str "Ledger" 470), (.str "/claim/cut.py" 471), (.int 89 0), (.int 0 0), (.int 0 0), (.int 0 0), (.int 0 0), (.ref 210), (.bool false), (.int 181 0), (.ref 211), .none, .none, .none, .none, (.int 472 0), (.int 89 0), (.str "/claim/cut.py" 473)]), #[]⟩
def o213_0 (P : Params) : Obj := ⟨(.type "frame"), none, .plain, #[(some (.ref 212)), (some (.ref 3)), (some (.ref 209)), none, (some (.str "surenear.ledger.ledger" 465)), none, (some (.ref 0))]⟩
def o214_0 (P : Params) : Obj := ⟨(.type "tuple"), none, (.seq #[] 0), #[]⟩
def o215_0 (P : Params) : Obj := ⟨.none, none, (.fields #[]), #[]⟩
def o216_0 (P : Params) : Obj := ⟨(.type "tuple"), none, (.seq #[(.str "self" 482), (.str "schema" 483), (.str "key" 484)] 0), #[]⟩
def o217_0 (P : Params) : Obj := ⟨(.type "tuple"), none, (.seq #[] 0), #[]⟩
def o218_0 (P : Params) : Obj := ⟨.none, none, (.func (zf (mS 19 0) "__init__" "Ledger.__init__" 0 [] .none .none .none .none none .none .none 0)), #[]⟩
def o219_0 (P : Params) : Obj := ⟨(.type "code"), none, (.fields #[(.str "__init__" 479), (.str "Ledger.__init__" 480), (.str "/claim/cut.py" 481), (.int 91 0), (.int 3 0), (.int 0 0), (.int 0 0), (.int 3 0), (.ref 214), (.bool true), (.int 181 0), (.ref 215), .none, (.ref 216), (.ref 217), (.ref 218), (.int 485 0), (.int 91 0), (.str "/claim/cut.py" 486)]), #[]⟩
def o220_0 (P : Params) : Obj := ⟨(.type "function"), none, (.func (zf (mS 19 0) "__init__" "Ledger.__init__" 3 [] .none .none .none (.str "surenear.ledger.ledger" 465) none (.ref 219) .none 0)), #[]⟩
def o221_0 (P : Params) : Obj := ⟨(.type "tuple"), none, (.seq #[] 0), #[]⟩
def o222_0 (P : Params) : Obj := ⟨.none, none, (.fields #[]), #[]⟩
def o223_0 (P : Params) : Obj := ⟨(.type "tuple"), none, (.seq #[(.str "self" 491)] 0), #[]⟩
def o224_0 (P : Params) : Obj := ⟨(.type "tuple"), none, (.seq #[] 0), #[]⟩
def o225_0 (P : Params) : Obj := ⟨.none, none, (.func (zf (mS 19 1) "twin" "Ledger.twin" 0 [] .none .none .none .none none .none .none 0)), #[]⟩
def o226_0 (P : Params) : Obj := ⟨(.type "code"), none, (.fields #[(.str "twin" 488), (.str "Ledger.twin" 489), (.str "/claim/cut.py" 490), (.int 102 0), (.int 1 0), (.int 0 0), (.int 0 0), (.int 3 0), (.ref 221), (.bool true), (.int 181 0), (.ref 222), .none, (.ref 223), (.ref 224), (.ref 225), (.int 492 0), (.int 102 0), (.str "/claim/cut.py" 493)]), #[]⟩
def o227_0 (P : Params) : Obj := ⟨(.type "function"), none, (.func (zf (mS 19 1) "twin" "Ledger.twin" 3 [] .none .none .none (.str "surenear.ledger.ledger" 465) none (.ref 226) .none 0)), #[]⟩
def o228_0 (P : Params) : Obj := ⟨(.type "tuple"), none, (.seq #[] 0), #[]⟩
def o229_0 (P : Params) : Obj := ⟨.none, none, (.fields #[]), #[]⟩
def o230_0 (P : Params) : Obj := ⟨(.type "tuple"), none, (.seq #[(.str "self" 498), (.str "moment" 499)] 0), #[]⟩
def o231_0 (P : Params) : Obj := ⟨(.type "tuple"), none, (.seq #[] 0), #[]⟩
def o232_0 (P : Params) : Obj := ⟨.none, none, (.func (zf (mS 19 2) "keeps" "Ledger.keeps" 0 [] .none .none .none .none none .none .none 0)), #[]⟩
def o233_0 (P : Params) : Obj := ⟨(.type "code"), none, (.fields #[(.str "keeps" 495), (.str "Ledger.keeps" 496), (.str "/claim/cut.py" 497), (.int 105 0), (.int 2 0), (.int 0 0), (.int 0 0), (.int 3 0), (.ref 228), (.bool true), (.int 181 0), (.ref 229), .none, (.ref 230), (.ref 231), (.ref 232), (.int 500 0), (.int 105 0), (.str "/claim/cut.py" 501)]), #[]⟩
def o234_0 (P : Params) : Obj := ⟨(.type "function"), none, (.func (zf (mS 19 2) "keeps" "Ledger.keeps" 3 [] .none .none .none (.str "surenear.ledger.ledger" 465) none (.ref 233) .none 0)), #[]⟩
def o235_0 (P : Params) : Obj := ⟨(.type "tuple"), none, (.seq #[] 0), #[]⟩
def o236_0 (P : Params) : Obj := ⟨.none, none, (.fields #[]), #[]⟩
def o237_0 (P : Params) : Obj := ⟨.none, none, (.func (zf (mS 19 3) "is_needed" "Ledger.is_needed" 0 [] .none .none .none .none none .none .none 0)), #[]⟩
def o238_0 (P : Params) : Obj := ⟨(.type "code"), none, (.fields #[(.str "is_needed" 503), (.str "Ledger.is_needed" 504), (.str "/claim/cut.py" 505), (.int 108 0), (.int 2 0), (.int 0 0), (.int 0 0), (.int 3 0), (.ref 235), (.bool true), (.int 181 0), (.ref 236), .none, .none, .none, (.ref 237), (.int 506 0), (.int 108 0), (.str "/claim/cut.py" 507)]), #[]⟩
def o239_0 (P : Params) : Obj := ⟨(.type "function"), none, (.func (zf (mS 19 3) "is_needed" "Ledger.is_needed" 3 [] .none .none .none (.str "surenear.ledger.ledger" 465) none (.ref 238) .none 0)), #[]⟩
def o240_0 (P : Params) : Obj := ⟨(.type "tuple"), none, (.seq #[] 0), #[]⟩
def o241_0 (P : Params) : Obj := ⟨.none, none, (.fields #[]), #[]⟩
def o242_0 (P : Params) : Obj := ⟨.none, none, (.func (zf (mS 19 4) "tidy" "Ledger.tidy" 0 [] .none .none .none .none none .none .none 0)), #[]⟩
def o243_0 (P : Params) : Obj := ⟨(.type "code"), none, (.fields #[(.str "tidy" 509), (.str "Ledger.tidy" 510), (.str "/claim/cut.py" 511), (.int 113 0), (.int 1 0), (.int 0 0), (.int 0 0), (.int 3 0), (.ref 240), (.bool true), (.int 181 0), (.ref 241), .none, .none, .none, (.ref 242), (.int 512 0), (.int 113 0), (.str "/claim/cut.py" 513)]), #[]⟩
def o244_0 (P : Params) : Obj := ⟨(.type "function"), none, (.func (zf (mS 19 4) "tidy" "Ledger.tidy" 3 [] .none .none .none (.str "surenear.ledger.ledger" 465) none (.ref 243) .none 0)), #[]⟩
def o245_0 (P : Params) : Obj := ⟨(.type "tuple"), none, (.seq #[] 0), #[]⟩
def o246_0 (P : Params) : Obj := ⟨.none, none, (.fields #[]), #[]⟩
def o247_0 (P : Params) : Obj := ⟨(.type "tuple"), none, (.seq #[(.str "self" 518), (.str "name" 519), (.str "note" 520)] 0), #[]⟩
def o248_0 (P : Params) : Obj := ⟨(.type "tuple"), none, (.seq #[] 0), #[]⟩
def o249_0 (P : Params) : Obj := ⟨.none, none, (.func (zf (mS 19 5) "note_of" "Ledger.note_of" 0 [] .none .none .none .none none .none .none 0)), #[]⟩
def o250_0 (P : Params) : Obj := ⟨(.type "code"), none, (.fields #[(.str "note_of" 515), (.str "Ledger.note_of" 516), (.str "/claim/cut.py" 517), (.int 118 0), (.int 2 0), (.int 0 0), (.int 0 0), (.int 3 0), (.ref 245), (.bool true), (.int 181 0), (.ref 246), .none, (.ref 247), (.ref 248), (.ref 249), (.int 521 0), (.int 118 0), (.str "/claim/cut.py" 522)]), #[]⟩
def o251_0 (P : Params) : Obj := ⟨(.type "function"), none, (.func (zf (mS 19 5) "note_of" "Ledger.note_of" 3 [] .none .none .none (.str "surenear.ledger.ledger" 465) none (.ref 250) .none 0)), #[]⟩
def o252_0 (P : Params) : Obj := ⟨(.type "tuple"), none, (.seq #[] 0), #[]⟩
def o253_0 (P : Params) : Obj := ⟨.none, none, (.fields #[]), #[]⟩
def o254_0 (P : Params) : Obj := ⟨.none, none, (.func (zf (mS 19 6) "end" "Ledger.end" 0 [] .none .none .none .none none .none .none 0)), #[]⟩
def o255_0 (P : Params) : Obj := ⟨(.type "code"), none, (.fields #[(.str "end" 524), (.str "Ledger.end" 525), (.str "/claim/cut.py" 526), (.int 124 0), (.int 2 0), (.int 0 0), (.int 0 0), (.int 3 0), (.ref 252), (.bool true), (.int 181 0), (.ref 253), .none, .none, .none, (.ref 254), (.int 527 0), (.int 124 0), (.str "/claim/cut.py" 528)]), #[]⟩
def o256_0 (P : Params) : Obj := ⟨(.type "function"), none, (.func (zf (mS 19 6) "end" "Ledger.end" 3 [] .none .none .none (.str "surenear.ledger.ledger" 465) none (.ref 255) .none 0)), #[]⟩
def o257_0 (P : Params) : Obj := ⟨(.type "tuple"), none, (.seq #[] 0), #[]⟩
def o258_0 (P : Params) : Obj := ⟨.none, none, (.fields #[]), #[]⟩
def o259_0 (P : Params) : Obj := ⟨(.type "tuple"), none, (.seq #[(.str "self" 533), (.str "record" 534), (.str "mark" 535)] 0), #[]⟩
def o260_0 (P : Params) : Obj := ⟨(.type "tuple"), none, (.seq #[] 0), #[]⟩
def o261_0 (P : Params) : Obj := ⟨.none, none, (.func (zf (mS 19 7) "put" "Ledger.put" 0 [] .none .none .none .none none .none .none 0)), #[]⟩
def o262_0 (P : Params) : Obj := ⟨(.type "code"), none, (.fields #[(.str "put" 530), (.str "Ledger.put" 531), (.str "/claim/cut.py" 532), (.int 127 0), (.int 2 0), (.int 0 0), (.int 0 0), (.int 3 0), (.ref 257), (.bool true), (.int 181 0), (.ref 258), .none, (.ref 259), (.ref 260), (.ref 261), (.int 536 0), (.int 127 0), (.str "/claim/cut.py" 537)]), #[]⟩
def o263_0 (P : Params) : Obj := ⟨(.type "function"), none, (.func (zf (mS 19 7) "put" "Ledger.put" 3 [] .none .none .none (.str "surenear.ledger.ledger" 465) none (.ref 262) .none 0)), #[]⟩
def o264_0 (P : Params) : Obj := ⟨(.type "tuple"), none, (.seq #[] 0), #[]⟩
def o265_0 (P : Params) : Obj := ⟨.none, none, (.fields #[]), #[]⟩
def o266_0 (P : Params) : Obj := ⟨(.type "tuple"), none, (.seq #[(.str "self" 542), (.str "name" 543)] 0), #[]⟩
def o267_0 (P : Params) : Obj := ⟨(.type "tuple"), none, (.seq #[] 0), #[]⟩
def o268_0 (P : Params) : Obj := ⟨.none, none, (.func (zf (mS 19 8) "drop" "Ledger.drop" 0 [] .none .none .none .none none .none .none 0)), #[]⟩
def o269_0 (P : Params) : Obj := ⟨(.type "code"), none, (.fields #[(.str "drop" 539), (.str "Ledger.drop" 540), (.str "/claim/cut.py" 541), (.int 136 0), (.int 2 0), (.int 0 0), (.int 0 0), (.int 3 0), (.ref 264), (.bool true), (.int 181 0), (.ref 265), .none, (.ref 266), (.ref 267), (.ref 268), (.int 544 0), (.int 136 0), (.str "/claim/cut.py" 545)]), #[]⟩
def o270_0 (P : Params) : Obj := ⟨(.type "function"), none, (.func (zf (mS 19 8) "drop" "Ledger.drop" 3 [] .none .none .none (.str "surenear.ledger.ledger" 465) none (.ref 269) .none 0)), #[]⟩
def o271_0 (P : Params) : Obj := ⟨(.type "tuple"), none, (.seq #[] 0), #[]⟩
def o272_0 (P : Params) : Obj := ⟨.none, none, (.fields #[]), #[]⟩
def o273_0 (P : Params) : Obj := ⟨(.type "tuple"), none, (.seq #[(.str "self" 550)] 0), #[]⟩
def o274_0 (P : Params) : Obj := ⟨(.type "tuple"), none, (.seq #[] 0), #[]⟩
def o275_0 (P : Params) : Obj := ⟨.none, none, (.func (zf (mS 19 9) "pin" "Ledger.pin" 0 [] .none .none .none .none none .none .none 0)), #[]⟩
def o276_0 (P : Params) : Obj := ⟨(.type "code"), none, (.fields #[(.str "pin" 547), (.str "Ledger.pin" 548), (.str "/claim/cut.py" 549), (.int 144 0), (.int 1 0), (.int 0 0), (.int 0 0), (.int 3 0), (.ref 271), (.bool true), (.int 181 0), (.ref 272), .none, (.ref 273), (.ref 274), (.ref 275), (.int 551 0), (.int 144 0), (.str "/claim/cut.py" 552)]), #[]⟩
def o277_0 (P : Params) : Obj := ⟨(.type "function"), none, (.func (zf (mS 19 9) "pin" "Ledger.pin" 3 [] .none .none .none (.str "surenear.ledger.ledger" 465) none (.ref 276) .none 0)), #[]⟩
def o278_0 (P : Params) : Obj := ⟨(.type "tuple"), none, (.seq #[] 0), #[]⟩
def o279_0 (P : Params) : Obj := ⟨.none, none, (.fields #[]), #[]⟩
def o280_0 (P : Params) : Obj := ⟨(.type "tuple"), none, (.seq #[(.str "self" 557), (.str "moment" 558), (.str "at" 559)] 0), #[]⟩
def o281_0 (P : Params) : Obj := ⟨(.type "tuple"), none, (.seq #[] 0), #[]⟩
def o282_0 (P : Params) : Obj := ⟨.none, none, (.func (zf (mS 19 10) "unpin" "Ledger.unpin" 0 [] .none .none .none .none none .none .none 0)), #[]⟩
def o283_0 (P : Params) : Obj := ⟨(.type "code"), none, (.fields #[(.str "unpin" 554), (.str "Ledger.unpin" 555), (.str "/claim/cut.py" 556), (.int 148 0), (.int 2 0), (.int 0 0), (.int 0 0), (.int 3 0), (.ref 278), (.bool true), (.int 181 0), (.ref 279), .none, (.ref 280), (.ref 281), (.ref 282), (.int 560 0), (.int 148 0), (.str "/claim/cut.py" 561)]), #[]⟩
def o284_0 (P : Params) : Obj := ⟨(.type "function"), none, (.func (zf (mS 19 10) "unpin" "Ledger.unpin" 3 [] .none .none .none (.str "surenear.ledger.ledger" 465) none (.ref 283) .none 0)), #[]⟩
def o285_0 (P : Params) : Obj := ⟨(.type "tuple"), none, (.seq #[] 0), #[]⟩
def o286_0 (P : Params) : Obj := ⟨.none, none, (.fields #[]), #[]⟩
def o287_0 (P : Params) : Obj := ⟨(.type "tuple"), none, (.seq #[(.str "self" 566), (.str "moment" 567)] 0), #[]⟩
def o288_0 (P : Params) : Obj := ⟨(.type "tuple"), none, (.seq #[] 0), #[]⟩
def o289_0 (P : Params) : Obj := ⟨.none, none, (.func (zf (mS 19 11) "lift" "Ledger.lift" 0 [] .none .none .none .none none .none .none 0)), #[]⟩
def o290_0 (P : Params) : Obj := ⟨(.type "code"), none, (.fields #[(.str "lift" 563), (.str "Ledger.lift" 564), (.str "/claim/cut.py" 565), (.int 155 0), (.int 2 0), (.int 0 0), (.int 0 0), (.int 3 0), (.ref 285), (.bool true), (.int 181 0), (.ref 286), .none, (.ref 287), (.ref 288), (.ref 289), (.int 568 0), (.int 155 0), (.str "/claim/cut.py" 569)]), #[]⟩
def o291_0 (P : Params) : Obj := ⟨(.type "function"), none, (.func (zf (mS 19 11) "lift" "Ledger.lift" 3 [] .none .none .none (.str "surenear.ledger.ledger" 465) none (.ref 290) .none 0)), #[]⟩
def o292_0 (P : Params) : Obj := ⟨(.type "tuple"), none, (.seq #[] 0), #[]⟩
def o293_0 (P : Params) : Obj := ⟨.none, none, (.fields #[]), #[]⟩
def o294_0 (P : Params) : Obj := ⟨(.type "tuple"), none, (.seq #[(.str "self" 574), (.str "offer" 575)] 0), #[]⟩
def o295_0 (P : Params) : Obj := ⟨(.type "tuple"), none, (.seq #[] 0), #[]⟩
def o296_0 (P : Params) : Obj := ⟨.none, none, (.func (zf (mS 19 12) "would_take" "Ledger.would_take" 0 [] .none .none .none .none none .none .none 0)), #[]⟩
def o297_0 (P : Params) : Obj := ⟨(.type "code"), none, (.fields #[(.str "would_take" 571), (.str "Ledger.would_take" 572), (.str "/claim/cut.py" 573), (.int 160 0), (.int 2 0), (.int 0 0), (.int 0 0), (.int 3 0), (.ref 292), (.bool true), (.int 181 0), (.ref 293), .none, (.ref 294), (.ref 295), (.ref 296), (.int 576 0), (.int 160 0), (.str "/claim/cut.py" 577)]), #[]⟩
def o298_0 (P : Params) : Obj := ⟨(.type "function"), none, (.func (zf (mS 19 12) "would_take" "Ledger.would_take" 3 [] .none .none .none (.str "surenear.ledger.ledger" 465) none (.ref 297) .none 0)), #[]⟩
def o299_0 (P : Params) : Obj := ⟨(.type "tuple"), none, (.seq #[] 0), #[]⟩
def o300_0 (P : Params) : Obj := ⟨.none, none, (.fields #[]), #[]⟩
def o301_0 (P : Params) : Obj := ⟨(.type "tuple"), none, (.seq #[(.str "self" 582), (.str "shard" 583), (.str "offer" 584)] 0), #[]⟩
def o302_0 (P : Params) : Obj := ⟨(.type "tuple"), none, (.seq #[] 0), #[]⟩
def o303_0 (P : Params) : Obj := ⟨.none, none, (.func (zf (mS 19 13) "audit" "Ledger.audit" 0 [] .none .none .none .none none .none .none 0)), #[]⟩
def o304_0 (P : Params) : Obj := ⟨(.type "code"), none, (.fields #[(.str "audit" 579), (.str "Ledger.audit" 580), (.str "/claim/cut.py" 581), (.int 163 0), (.int 3 0), (.int 0 0), (.int 0 0), (.int 3 0), (.ref 299), (.bool true), (.int 181 0), (.ref 300), .none, (.ref 301), (.ref 302), (.ref 303), (.int 585 0), (.int 163 0), (.str "/claim/cut.py" 586)]), #[]⟩
def o305_0 (P : Params) : Obj := ⟨(.type "function"), none, (.func (zf (mS 19 13) "audit" "Ledger.audit" 3 [] .none .none .none (.str "surenear.ledger.ledger" 465) none (.ref 304) .none 0)), #[]⟩
def o306_0 (P : Params) : Obj := ⟨(.type "tuple"), none, (.seq #[] 0), #[]⟩
def o307_0 (P : Params) : Obj := ⟨.none, none, (.fields #[]), #[]⟩
def o308_0 (P : Params) : Obj := ⟨.none, none, (.func (zf (mS 19 14) "own" "Ledger.own" 0 [] .none .none .none .none none .none .none 0)), #[]⟩
def o309_0 (P : Params) : Obj := ⟨(.type "code"), none, (.fields #[(.str "own" 588), (.str "Ledger.own" 589), (.str "/claim/cut.py" 590), (.int 166 0), (.int 4 0), (.int 0 0), (.int 0 0), (.int 3 0), (.ref 306), (.bool true), (.int 181 0), (.ref 307), .none, .none, .none, (.ref 308), (.int 591 0), (.int 166 0), (.str "/claim/cut.py" 592)]), #[]⟩
def o310_0 (P : Params) : Obj := ⟨(.type "function"), none, (.func (zf (mS 19 14) "own" "Ledger.own" 3 [] .none .none .none (.str "surenear.ledger.ledger" 465) none (.ref 309) .none 0)), #[]⟩
def o311_0 (P : Params) : Obj := ⟨(.type "tuple"), none, (.seq #[] 0), #[]⟩
def o312_0 (P : Params) : Obj := ⟨.none, none, (.fields #[]), #[]⟩
def o313_0 (P : Params) : Obj := ⟨(.type "tuple"), none, (.seq #[(.str "self" 597), (.str "moment" 598)] 0), #[]⟩
def o314_0 (P : Params) : Obj := ⟨(.type "tuple"), none, (.seq #[] 0), #[]⟩
def o315_0 (P : Params) : Obj := ⟨.none, none, (.func (zf (mS 19 15) "live" "Ledger.live" 0 [] .none .none .none .none none .none .none 0)), #[]⟩
def o316_0 (P : Params) : Obj := ⟨(.type "code"), none, (.fields #[(.str "live" 594), (.str "Ledger.live" 595), (.str "/claim/cut.py" 596), (.int 177 0), (.int 2 0), (.int 0 0), (.int 0 0), (.int 3 0), (.ref 311), (.bool true), (.int 181 0), (.ref 312), .none, (.ref 313), (.ref 314), (.ref 315), (.int 599 0), (.int 177 0), (.str "/claim/cut.py" 600)]), #[]⟩
def o317_0 (P : Params) : Obj := ⟨(.type "function"), none, (.func (zf (mS 19 15) "live" "Ledger.live" 3 [] .none .none .none (.str "surenear.ledger.ledger" 465) none (.ref 316) .none 0)), #[]⟩
def o318_0 (P : Params) : Obj := ⟨(.type "tuple"), none, (.seq #[] 0), #[]⟩
def o319_0 (P : Params) : Obj := ⟨.none, none, (.fields #[]), #[]⟩
def o320_0 (P : Params) : Obj := ⟨(.type "tuple"), none, (.seq #[(.str "self" 605), (.str "number" 606), (.str "segment" 607)] 0), #[]⟩
def o321_0 (P : Params) : Obj := ⟨(.type "tuple"), none, (.seq #[] 0), #[]⟩
def o322_0 (P : Params) : Obj := ⟨.none, none, (.func (zf (mS 19 16) "segment_of" "Ledger.segment_of" 0 [] .none .none .none .none none .none .none 0)), #[]⟩
def o323_0 (P : Params) : Obj := ⟨(.type "code"), none, (.fields #[(.str "segment_of" 602), (.str "Ledger.segment_of" 603), (.str "/claim/cut.py" 604), (.int 180 0), (.int 2 0), (.int 0 0), (.int 0 0), (.int 3 0), (.ref 318), (.bool true), (.int 181 0), (.ref 319), .none, (.ref 320), (.ref 321), (.ref 322), (.int 608 0), (.int 180 0), (.str "/claim/cut.py" 609)]), #[]⟩
def o324_0 (P : Params) : Obj := ⟨(.type "function"), none, (.func (zf (mS 19 16) "segment_of" "Ledger.segment_of" 3 [] .none .none .none (.str "surenear.ledger.ledger" 465) none (.ref 323) .none 0)), #[]⟩
def o325_0 (P : Params) : Obj := ⟨(.type "tuple"), none, (.seq #[] 0), #[]⟩
def o326_0 (P : Params) : Obj := ⟨.none, none, (.fields #[]), #[]⟩
def o327_0 (P : Params) : Obj := ⟨(.type "tuple"), none, (.seq #[(.str "self" 614), (.str "number" 615)] 0), #[]⟩
def o328_0 (P : Params) : Obj := ⟨(.type "tuple"), none, (.seq #[] 0), #[]⟩
def o329_0 (P : Params) : Obj := ⟨.none, none, (.func (zf (mS 19 17) "owned_by" "Ledger.owned_by" 0 [] .none .none .none .none none .none .none 0)), #[]⟩
def o330_0 (P : Params) : Obj := ⟨(.type "code"), none, (.fields #[(.str "owned_by" 611), (.str "Ledger.owned_by" 612), (.str "/claim/cut.py" 613), (.int 186 0), (.int 2 0), (.int 0 0), (.int 0 0), (.int 3 0), (.ref 325), (.bool true), (.int 181 0), (.ref 326), .none, (.ref 327), (.ref 328), (.ref 329), (.int 616 0), (.int 186 0), (.str "/claim/cut.py" 617)]), #[]⟩
def o331_0 (P : Params) : Obj := ⟨(.type "function"), none, (.func (zf (mS 19 17) "owned_by" "Ledger.owned_by" 3 [] .none .none .none (.str "surenear.ledger.ledger" 465) none (.ref 330) .none 0)), #[]⟩
def o332_0 (P : Params) : Obj := ⟨(.type "tuple"), none, (.seq #[] 0), #[]⟩
def o333_0 (P : Params) : Obj := ⟨.none, none, (.fields #[]), #[]⟩
def o334_0 (P : Params) : Obj := ⟨(.type "tuple"), none, (.seq #[(.str "self" 622)] 0), #[]⟩
def o335_0 (P : Params) : Obj := ⟨(.type "tuple"), none, (.seq #[] 0), #[]⟩
def o336_0 (P : Params) : Obj := ⟨.none, none, (.func (zf (mS 19 18) "fresh" "Ledger.fresh" 0 [] .none .none .none .none none .none .none 0)), #[]⟩
def o337_0 (P : Params) : Obj := ⟨(.type "code"), none, (.fields #[(.str "fresh" 619), (.str "Ledger.fresh" 620), (.str "/claim/cut.py" 621), (.int 189 0), (.int 1 0), (.int 0 0), (.int 0 0), (.int 3 0), (.ref 332), (.bool true), (.int 181 0), (.ref 333), .none, (.ref 334), (.ref 335), (.ref 336), (.int 623 0), (.int 189 0), (.str "/claim/cut.py" 624)]), #[]⟩
def o338_0 (P : Params) : Obj := ⟨(.type "function"), none, (.func (zf (mS 19 18) "fresh" "Ledger.fresh" 3 [] .none .none .none (.str "surenear.ledger.ledger" 465) none (.ref 337) .none 0)), #[]⟩
def o339_0 (P : Params) : Obj := ⟨(.type "tuple"), none, (.seq #[(.str "floor" 626), (.str "key" 627), (.str "notes" 628), (.str "now" 629), (.str "pins" 630), (.str "schema" 631), (.str "segments" 632), (.str "upcoming" 633)] 0), #[]⟩
def o340_0 (P : Params) : Obj := ⟨(.type "dict"), none, (.dict (List.toArray (zd P "__module__" 474 (.str "surenear.ledger.ledger" 465) :: zd P "__firstlineno__" 478 (.int 89 477) :: zd P "__init__" 487 (.ref 220) :: zd P "twin" 494 (.ref 227) :: zd P "keeps" 502 (.ref 234) :: zd P "is_needed" 508 (.ref 239) :: zd P "tidy" 514 (.ref 244) :: zd P "note_of" 523 (.ref 251) :: zd P "end" 529 (.ref 256) :: zd P "put" 538 (.ref 263) :: zd P "drop" 546 (.ref 270) :: zd P "pin" 553 (.ref 277) :: zd P "unpin" 562 (.ref 284) :: zd P "lift" 570 (.ref 291) :: zd P "would_take" 578 (.ref 298) :: zd P "audit" 587 (.ref 305) :: zd P "own" 593 (.ref 310) :: zd P "live" 601 (.ref 317) :: zd P "segment_of" 610 (.ref 324) :: zd P "owned_by" 618 (.ref 331) :: zd P "fresh" 625 (.ref 338) :: zd P "__static_attributes__" 634 (.ref 339) :: zd P "__dict__" 636 (.ref 342) :: zd P "__weakref__" 638 (.ref 343) :: zd P "__doc__" 639 .none :: [])) 4), #[]⟩
def o341_0 (P : Params) : Obj := ⟨(.type "type"), none, (.cls ⟨"Ledger", [(.type "object")], [(.ref 341), (.type "object")], 340, "Ledger", true, [], [], false, none, false⟩), #[none, none, (some (.str "Ledger" 467)), (some (.str "Ledger" 475)), (some (.builtin "object.__new__")), (some (.bool true))]⟩
def o342_0 (P : Params) : Obj := ⟨(.type "getset_descriptor"), none, (.fields #[(.str "__dict__" 635), (.ref 341), (.builtin "function.__dict__"), (.builtin "function.__dict__#set")]), #[]⟩
def o343_0 (P : Params) : Obj := ⟨(.type "getset_descriptor"), none, (.fields #[(.str "__weakref__" 637), (.ref 341), (.builtin "ExceptionGroup.__weakref__"), .none]), #[]⟩
def o344_0 (P : Params) : Obj := ⟨(.type "super"), none, (.fields #[(.ref 341), (.ref 341), (.ref 341)]), #[]⟩
def o345_0 (P : Params) : Obj := ⟨(.type "builtin_function_or_method"), none, (.fields #[(.builtin "object.__init_subclass__"), (.ref 341)]), #[]⟩
def o346_0 (P : Params) : Obj := ⟨(.type "tuple"), none, (.seq #[] 0), #[]⟩
def o347_0 (P : Params) : Obj := ⟨.none, none, (.fields #[]), #[]⟩
def o348_0 (P : Params) : Obj := ⟨.none, none, (.func (zf (tS 21) "put_route" "put_route" 0 [] .none .none .none .none none .none .none 0)), #[]⟩
def o349_0 (P : Params) : Obj := ⟨(.type "code"), none, (.fields #[(.str "put_route" 644), (.str "put_route" 645), (.str "/claim/cut.py" 646), (.int 192 0), (.int 3 0), (.int 0 0), (.int 0 0), (.int 3 0), (.ref 346), (.bool true), (.int 181 0), (.ref 347), .none, .none, .none, (.ref 348), (.int 647 0), (.int 192 0), (.str "/claim/cut.py" 648)]), #[]⟩
def o350_0 (P : Params) : Obj := ⟨(.type "function"), none, (.func (zf (tS 21) "put_route" "put_route" 3 [] .none .none .none (.str "surenear.gateway.catalog" 642) none (.ref 349) .none 0)), #[]⟩
def o351_0 (P : Params) : Obj := ⟨(.type "tuple"), none, (.seq #[] 0), #[]⟩
def o352_0 (P : Params) : Obj := ⟨(.type "builtin_function_or_method"), none, (.fields #[(.builtin "type.__prepare__"), (.type "type")]), #[]⟩
def o353_0 (P : Params) : Obj := ⟨(.type "dict"), none, (.dict #[zd P "__module__" 657 (.str "surenear.gateway.catalog" 642), zd P "__qualname__" 659 (.str "Catalog" 658), zd P "__firstlineno__" 661 (.int 195 660), zd P "__init__" 671 (.ref 364), zd P "twin" 678 (.ref 371), zd P "shard_of" 689 (.ref 378), zd P "title_of" 700 (.ref 385), zd P "segment_named" 709 (.ref 392), zd P "turns" 720 (.ref 399), zd P "close" 729 (.ref 406), zd P "settle" 740 (.ref 413), zd P "own" 746 (.ref 418), zd P "forget" 752 (.ref 423), zd P "write" 760 (.ref 430), zd P "change" 768 (.ref 437), zd P "apply" 777 (.ref 444), zd P "__static_attributes__" 783 (.ref 445)] 17), #[]⟩
def o354_0 (P : Params) : Obj := ⟨(.type "tuple"), none, (.seq #[] 0), #[]⟩
def o355_0 (P : Params) : Obj := ⟨.none, none, (.fields (List.toArray ((.int 197 0) :: (.int 4 0) :: (.ref 363) :: (.int 204 0) :: (.int 4 0) :: (.ref 370) :: (.int 207 0) :: (.int 4 0) :: (.ref 377) :: (.int 214 0) :: (.int 4 0) :: (.ref 384) :: (.int 220 0) :: (.int 4 0) :: (.ref 391) :: (.int 223 0) :: (.int 4 0) :: (.ref 398) :: (.int 229 0) :: (.int 4 0) :: (.ref 405) :: (.int 233 0) :: (.int 4 0) :: (.ref 412) :: (.int 242 0) :: (.int 4 0) :: (.ref 417) :: (.int 251 0) :: (.int 4 0) :: (.ref 422) :: (.int 254 0) :: (.int 4 0) :: (.ref 429) :: (.int 267 0) :: (.int 4 0) :: (.ref 436) :: (.int 284 0) :: (.int 4 0) :: (.ref 443) :: []))), #[]⟩
def o356_0 (P : Params) : Obj := ⟨(.type "code"), none, (.fields #[(.str "Catalog" 652), (.str "Catalog" 653), (.str "/claim/cut.py" 654), (.int 195 0), (.int 0 0), (.int 0 0), (.int 0 0), (.int 0 0), (.ref 354), (.bool false), (.int 181 0), (.ref 355), .none, .none, .none, .none, (.int 655 0), (.int 195 0), (.str "/claim/cut.py" 656)]), #[]⟩
def o357_0 (P : Params) : Obj := ⟨(.type "frame"), none, .plain, #[(some (.ref 356)), (some (.ref 3)), (some (.ref 353)), none, (some (.str "surenear.gateway.catalog" 642)), none, (some (.ref 0))]⟩
def o358_0 (P : Params) : Obj := ⟨(.type "tuple"), none, (.seq #[] 0), #[]⟩
def o359_0 (P : Params) : Obj := ⟨.none, none, (.fields #[]), #[]⟩
def o360_0 (P : Params) : Obj := ⟨(.type "tuple"), none, (.seq #[(.str "self" 665), (.str "schema" 666), (.str "key" 667), (.str "shard" 668)] 0), #[]⟩
def o361_0 (P : Params) : Obj := ⟨(.type "tuple"), none, (.seq #[] 0), #[]⟩
def o362_0 (P : Params) : Obj := ⟨.none, none, (.func (zf (mS 22 0) "__init__" "Catalog.__init__" 0 [] .none .none .none .none none .none .none 0)), #[]⟩
def o363_0 (P : Params) : Obj := ⟨(.type "code"), none, (.fields #[(.str "__init__" 662), (.str "Catalog.__init__" 663), (.str "/claim/cut.py" 664), (.int 197 0), (.int 4 0), (.int 0 0), (.int 0 0), (.int 3 0), (.ref 358), (.bool true), (.int 181 0), (.ref 359), .none, (.ref 360), (.ref 361), (.ref 362), (.int 669 0), (.int 197 0), (.str "/claim/cut.py" 670)]), #[]⟩
def o364_0 (P : Params) : Obj := ⟨(.type "function"), none, (.func (zf (mS 22 0) "__init__" "Catalog.__init__" 3 [] .none .none .none (.str "surenear.gateway.catalog" 642) none (.ref 363) .none 0)), #[]⟩
def o365_0 (P : Params) : Obj := ⟨(.type "tuple"), none, (.seq #[] 0), #[]⟩
def o366_0 (P : Params) : Obj := ⟨.none, none, (.fields #[]), #[]⟩
def o367_0 (P : Params) : Obj := ⟨(.type "tuple"), none, (.seq #[(.str "self" 675)] 0), #[]⟩
def o368_0 (P : Params) : Obj := ⟨(.type "tuple"), none, (.seq #[] 0), #[]⟩
def o369_0 (P : Params) : Obj := ⟨.none, none, (.func (zf (mS 22 1) "twin" "Catalog.twin" 0 [] .none .none .none .none none .none .none 0)), #[]⟩
def o370_0 (P : Params) : Obj := ⟨(.type "code"), none, (.fields #[(.str "twin" 672), (.str "Catalog.twin" 673), (.str "/claim/cut.py" 674), (.int 204 0), (.int 1 0), (.int 0 0), (.int 0 0), (.int 3 0), (.ref 365), (.bool true), (.int 181 0), (.ref 366), .none, (.ref 367), (.ref 368), (.ref 369), (.int 676 0), (.int 204 0), (.str "/claim/cut.py" 677)]), #[]⟩
def o371_0 (P : Params) : Obj := ⟨(.type "function"), none, (.func (zf (mS 22 1) "twin" "Catalog.twin" 3 [] .none .none .none (.str "surenear.gateway.catalog" 642) none (.ref 370) .none 0)), #[]⟩
def o372_0 (P : Params) : Obj := ⟨(.type "tuple"), none, (.seq #[] 0), #[]⟩
def o373_0 (P : Params) : Obj := ⟨.none, none, (.fields #[]), #[]⟩
def o374_0 (P : Params) : Obj := ⟨(.type "tuple"), none, (.seq #[(.str "self" 682), (.str "name" 683), (.str "found" 684), (.str "low" 685), (.str "shard" 686)] 0), #[]⟩
def o375_0 (P : Params) : Obj := ⟨(.type "tuple"), none, (.seq #[] 0), #[]⟩
def o376_0 (P : Params) : Obj := ⟨.none, none, (.func (zf (mS 22 2) "shard_of" "Catalog.shard_of" 0 [] .none .none .none .none none .none .none 0)), #[]⟩
def o377_0 (P : Params) : Obj := ⟨(.type "code"), none, (.fields #[(.str "shard_of" 679), (.str "Catalog.shard_of" 680), (.str "/claim/cut.py" 681), (.int 207 0), (.int 2 0), (.int 0 0), (.int 0 0), (.int 3 0), (.ref 372), (.bool true), (.int 181 0), (.ref 373), .none, (.ref 374), (.ref 375), (.ref 376), (.int 687 0), (.int 207 0), (.str "/claim/cut.py" 688)]), #[]⟩
def o378_0 (P : Params) : Obj := ⟨(.type "function"), none, (.func (zf (mS 22 2) "shard_of" "Catalog.shard_of" 3 [] .none .none .none (.str "surenear.gateway.catalog" 642) none (.ref 377) .none 0)), #[]⟩
def o379_0 (P : Params) : Obj := ⟨(.type "tuple"), none, (.seq #[] 0), #[]⟩
def o380_0 (P : Params) : Obj := ⟨.none, none, (.fields #[]), #[]⟩
def o381_0 (P : Params) : Obj := ⟨(.type "tuple"), none, (.seq #[(.str "self" 693), (.str "segment" 694), (.str "number" 695), (.str "shard" 696), (.str "name" 697)] 0), #[]⟩
def o382_0 (P : Params) : Obj := ⟨(.type "tuple"), none, (.seq #[] 0), #[]⟩
def o383_0 (P : Params) : Obj := ⟨.none, none, (.func (zf (mS 22 3) "title_of" "Catalog.title_of" 0 [] .none .none .none .none none .none .none 0)), #[]⟩
def o384_0 (P : Params) : Obj := ⟨(.type "code"), none, (.fields #[(.str "title_of" 690), (.str "Catalog.title_of" 691), (.str "/claim/cut.py" 692), (.int 214 0), (.int 2 0), (.int 0 0), (.int 0 0), (.int 3 0), (.ref 379), (.bool true), (.int 181 0), (.ref 380), .none, (.ref 381), (.ref 382), (.ref 383), (.int 698 0), (.int 214 0), (.str "/claim/cut.py" 699)]), #[]⟩
def o385_0 (P : Params) : Obj := ⟨(.type "function"), none, (.func (zf (mS 22 3) "title_of" "Catalog.title_of" 3 [] .none .none .none (.str "surenear.gateway.catalog" 642) none (.ref 384) .none 0)), #[]⟩
def o386_0 (P : Params) : Obj := ⟨(.type "tuple"), none, (.seq #[] 0), #[]⟩
def o387_0 (P : Params) : Obj := ⟨.none, none, (.fields #[]), #[]⟩
def o388_0 (P : Params) : Obj := ⟨(.type "tuple"), none, (.seq #[(.str "self" 704), (.str "shard" 705), (.str "name" 706)] 0), #[]⟩
def o389_0 (P : Params) : Obj := ⟨(.type "tuple"), none, (.seq #[] 0), #[]⟩
def o390_0 (P : Params) : Obj := ⟨.none, none, (.func (zf (mS 22 4) "segment_named" "Catalog.segment_named" 0 [] .none .none .none .none none .none .none 0)), #[]⟩
def o391_0 (P : Params) : Obj := ⟨(.type "code"), none, (.fields #[(.str "segment_named" 701), (.str "Catalog.segment_named" 702), (.str "/claim/cut.py" 703), (.int 220 0), (.int 3 0), (.int 0 0), (.int 0 0), (.int 3 0), (.ref 386), (.bool true), (.int 181 0), (.ref 387), .none, (.ref 388), (.ref 389), (.ref 390), (.int 707 0), (.int 220 0), (.str "/claim/cut.py" 708)]), #[]⟩
def o392_0 (P : Params) : Obj := ⟨(.type "function"), none, (.func (zf (mS 22 4) "segment_named" "Catalog.segment_named" 3 [] .none .none .none (.str "surenear.gateway.catalog" 642) none (.ref 391) .none 0)), #[]⟩
def o393_0 (P : Params) : Obj := ⟨(.type "tuple"), none, (.seq #[] 0), #[]⟩
def o394_0 (P : Params) : Obj := ⟨.none, none, (.fields #[]), #[]⟩
def o395_0 (P : Params) : Obj := ⟨(.type "tuple"), none, (.seq #[(.str "self" 713), (.str "shard" 714), (.str "name" 715), (.str "note" 716), (.str "title" 717)] 0), #[]⟩
def o396_0 (P : Params) : Obj := ⟨(.type "tuple"), none, (.seq #[] 0), #[]⟩
def o397_0 (P : Params) : Obj := ⟨.none, none, (.func (zf (mS 22 5) "turns" "Catalog.turns" 0 [] .none .none .none .none none .none .none 0)), #[]⟩
def o398_0 (P : Params) : Obj := ⟨(.type "code"), none, (.fields #[(.str "turns" 710), (.str "Catalog.turns" 711), (.str "/claim/cut.py" 712), (.int 223 0), (.int 4 0), (.int 0 0), (.int 0 0), (.int 3 0), (.ref 393), (.bool true), (.int 181 0), (.ref 394), .none, (.ref 395), (.ref 396), (.ref 397), (.int 718 0), (.int 223 0), (.str "/claim/cut.py" 719)]), #[]⟩
def o399_0 (P : Params) : Obj := ⟨(.type "function"), none, (.func (zf (mS 22 5) "turns" "Catalog.turns" 3 [] .none .none .none (.str "surenear.gateway.catalog" 642) none (.ref 398) .none 0)), #[]⟩
def o400_0 (P : Params) : Obj := ⟨(.type "tuple"), none, (.seq #[] 0), #[]⟩
def o401_0 (P : Params) : Obj := ⟨.none, none, (.fields #[]), #[]⟩
def o402_0 (P : Params) : Obj := ⟨(.type "tuple"), none, (.seq #[(.str "self" 724), (.str "shard" 725), (.str "name" 726)] 0), #[]⟩
def o403_0 (P : Params) : Obj := ⟨(.type "tuple"), none, (.seq #[] 0), #[]⟩
def o404_0 (P : Params) : Obj := ⟨.none, none, (.func (zf (mS 22 6) "close" "Catalog.close" 0 [] .none .none .none .none none .none .none 0)), #[]⟩
def o405_0 (P : Params) : Obj := ⟨(.type "code"), none, (.fields #[(.str "close" 721), (.str "Catalog.close" 722), (.str "/claim/cut.py" 723), (.int 229 0), (.int 3 0), (.int 0 0), (.int 0 0), (.int 3 0), (.ref 400), (.bool true), (.int 181 0), (.ref 401), .none, (.ref 402), (.ref 403), (.ref 404), (.int 727 0), (.int 229 0), (.str "/claim/cut.py" 728)]), #[]⟩
def o406_0 (P : Params) : Obj := ⟨(.type "function"), none, (.func (zf (mS 22 6) "close" "Catalog.close" 3 [] .none .none .none (.str "surenear.gateway.catalog" 642) none (.ref 405) .none 0)), #[]⟩
def o407_0 (P : Params) : Obj := ⟨(.type "tuple"), none, (.seq #[] 0), #[]⟩
def o408_0 (P : Params) : Obj := ⟨.none, none, (.fields #[]), #[]⟩
def o409_0 (P : Params) : Obj := ⟨(.type "tuple"), none, (.seq #[(.str "self" 733), (.str "stay" 734), (.str "number" 735), (.str "shard" 736), (.str "name" 737)] 0), #[]⟩
def o410_0 (P : Params) : Obj := ⟨(.type "tuple"), none, (.seq #[] 0), #[]⟩
def o411_0 (P : Params) : Obj := ⟨.none, none, (.func (zf (mS 22 7) "settle" "Catalog.settle" 0 [] .none .none .none .none none .none .none 0)), #[]⟩
def o412_0 (P : Params) : Obj := ⟨(.type "code"), none, (.fields #[(.str "settle" 730), (.str "Catalog.settle" 731), (.str "/claim/cut.py" 732), (.int 233 0), (.int 1 0), (.int 0 0), (.int 0 0), (.int 3 0), (.ref 407), (.bool true), (.int 181 0), (.ref 408), .none, (.ref 409), (.ref 410), (.ref 411), (.int 738 0), (.int 233 0), (.str "/claim/cut.py" 739)]), #[]⟩
def o413_0 (P : Params) : Obj := ⟨(.type "function"), none, (.func (zf (mS 22 7) "settle" "Catalog.settle" 3 [] .none .none .none (.str "surenear.gateway.catalog" 642) none (.ref 412) .none 0)), #[]⟩
def o414_0 (P : Params) : Obj := ⟨(.type "tuple"), none, (.seq #[] 0), #[]⟩
def o415_0 (P : Params) : Obj := ⟨.none, none, (.fields #[]), #[]⟩
def o416_0 (P : Params) : Obj := ⟨.none, none, (.func (zf (mS 22 8) "own" "Catalog.own" 0 [] .none .none .none .none none .none .none 0)), #[]⟩
def o417_0 (P : Params) : Obj := ⟨(.type "code"), none, (.fields #[(.str "own" 741), (.str "Catalog.own" 742), (.str "/claim/cut.py" 743), (.int 242 0), (.int 5 0), (.int 0 0), (.int 0 0), (.int 3 0), (.ref 414), (.bool true), (.int 181 0), (.ref 415), .none, .none, .none, (.ref 416), (.int 744 0), (.int 242 0), (.str "/claim/cut.py" 745)]), #[]⟩
def o418_0 (P : Params) : Obj := ⟨(.type "function"), none, (.func (zf (mS 22 8) "own" "Catalog.own" 3 [] .none .none .none (.str "surenear.gateway.catalog" 642) none (.ref 417) .none 0)), #[]⟩
def o419_0 (P : Params) : Obj := ⟨(.type "tuple"), none, (.seq #[] 0), #[]⟩
def o420_0 (P : Params) : Obj := ⟨.none, none, (.fields #[]), #[]⟩
def o421_0 (P : Params) : Obj := ⟨.none, none, (.func (zf (mS 22 9) "forget" "Catalog.forget" 0 [] .none .none .none .none none .none .none 0)), #[]⟩
def o422_0 (P : Params) : Obj := ⟨(.type "code"), none, (.fields #[(.str "forget" 747), (.str "Catalog.forget" 748), (.str "/claim/cut.py" 749), (.int 251 0), (.int 3 0), (.int 0 0), (.int 0 0), (.int 3 0), (.ref 419), (.bool true), (.int 181 0), (.ref 420), .none, .none, .none, (.ref 421), (.int 750 0), (.int 251 0), (.str "/claim/cut.py" 751)]), #[]⟩
def o423_0 (P : Params) : Obj := ⟨(.type "function"), none, (.func (zf (mS 22 9) "forget" "Catalog.forget" 3 [] .none .none .none (.str "surenear.gateway.catalog" 642) none (.ref 422) .none 0)), #[]⟩
def o424_0 (P : Params) : Obj := ⟨(.type "tuple"), none, (.seq #[] 0), #[]⟩
def o425_0 (P : Params) : Obj := ⟨.none, none, (.fields #[]), #[]⟩
def o426_0 (P : Params) : Obj := ⟨(.type "tuple"), none, (.seq #[(.str "self" 756), (.str "deed" 757)] 0), #[]⟩
def o427_0 (P : Params) : Obj := ⟨(.type "tuple"), none, (.seq #[] 0), #[]⟩
def o428_0 (P : Params) : Obj := ⟨.none, none, (.func (zf (mS 22 10) "write" "Catalog.write" 0 [] .none .none .none .none none .none .none 0)), #[]⟩
def o429_0 (P : Params) : Obj := ⟨(.type "code"), none, (.fields #[(.str "write" 753), (.str "Catalog.write" 754), (.str "/claim/cut.py" 755), (.int 254 0), (.int 2 0), (.int 0 0), (.int 0 0), (.int 3 0), (.ref 424), (.bool true), (.int 181 0), (.ref 425), .none, (.ref 426), (.ref 427), (.ref 428), (.int 758 0), (.int 254 0), (.str "/claim/cut.py" 759)]), #[]⟩
def o430_0 (P : Params) : Obj := ⟨(.type "function"), none, (.func (zf (mS 22 10) "write" "Catalog.write" 3 [] .none .none .none (.str "surenear.gateway.catalog" 642) none (.ref 429) .none 0)), #[]⟩
def o431_0 (P : Params) : Obj := ⟨(.type "tuple"), none, (.seq #[] 0), #[]⟩
def o432_0 (P : Params) : Obj := ⟨.none, none, (.fields #[]), #[]⟩
def o433_0 (P : Params) : Obj := ⟨(.type "tuple"), none, (.seq #[(.str "self" 764), (.str "deed" 765)] 0), #[]⟩
def o434_0 (P : Params) : Obj := ⟨(.type "tuple"), none, (.seq #[] 0), #[]⟩
def o435_0 (P : Params) : Obj := ⟨.none, none, (.func (zf (mS 22 11) "change" "Catalog.change" 0 [] .none .none .none .none none .none .none 0)), #[]⟩
def o436_0 (P : Params) : Obj := ⟨(.type "code"), none, (.fields #[(.str "change" 761), (.str "Catalog.change" 762), (.str "/claim/cut.py" 763), (.int 267 0), (.int 2 0), (.int 0 0), (.int 0 0), (.int 3 0), (.ref 431), (.bool true), (.int 181 0), (.ref 432), .none, (.ref 433), (.ref 434), (.ref 435), (.int 766 0), (.int 267 0), (.str "/claim/cut.py" 767)]), #[]⟩
def o437_0 (P : Params) : Obj := ⟨(.type "function"), none, (.func (zf (mS 22 11) "change" "Catalog.change" 3 [] .none .none .none (.str "surenear.gateway.catalog" 642) none (.ref 436) .none 0)), #[]⟩
def o438_0 (P : Params) : Obj := ⟨(.type "tuple"), none, (.seq #[] 0), #[]⟩
def o439_0 (P : Params) : Obj := ⟨.none, none, (.fields #[]), #[]⟩
def o440_0 (P : Params) : Obj := ⟨(.type "tuple"), none, (.seq #[(.str "self" 772), (.str "deed" 773), (.str "outcome" 774)] 0), #[]⟩
def o441_0 (P : Params) : Obj := ⟨(.type "tuple"), none, (.seq #[] 0), #[]⟩
def o442_0 (P : Params) : Obj := ⟨.none, none, (.func (zf (mS 22 12) "apply" "Catalog.apply" 0 [] .none .none .none .none none .none .none 0)), #[]⟩
def o443_0 (P : Params) : Obj := ⟨(.type "code"), none, (.fields #[(.str "apply" 769), (.str "Catalog.apply" 770), (.str "/claim/cut.py" 771), (.int 284 0), (.int 2 0), (.int 0 0), (.int 0 0), (.int 3 0), (.ref 438), (.bool true), (.int 181 0), (.ref 439), .none, (.ref 440), (.ref 441), (.ref 442), (.int 775 0), (.int 284 0), (.str "/claim/cut.py" 776)]), #[]⟩
def o444_0 (P : Params) : Obj := ⟨(.type "function"), none, (.func (zf (mS 22 12) "apply" "Catalog.apply" 3 [] .none .none .none (.str "surenear.gateway.catalog" 642) none (.ref 443) .none 0)), #[]⟩
def o445_0 (P : Params) : Obj := ⟨(.type "tuple"), none, (.seq #[(.str "begins" 778), (.str "closed" 779), (.str "ledger" 780), (.str "routes" 781), (.str "titles" 782)] 0), #[]⟩
def o446_0 (P : Params) : Obj := ⟨(.type "dict"), none, (.dict #[zd P "__module__" 657 (.str "surenear.gateway.catalog" 642), zd P "__firstlineno__" 661 (.int 195 660), zd P "__init__" 671 (.ref 364), zd P "twin" 678 (.ref 371), zd P "shard_of" 689 (.ref 378), zd P "title_of" 700 (.ref 385), zd P "segment_named" 709 (.ref 392), zd P "turns" 720 (.ref 399), zd P "close" 729 (.ref 406), zd P "settle" 740 (.ref 413), zd P "own" 746 (.ref 418), zd P "forget" 752 (.ref 423), zd P "write" 760 (.ref 430), zd P "change" 768 (.ref 437), zd P "apply" 777 (.ref 444), zd P "__static_attributes__" 783 (.ref 445), zd P "__dict__" 785 (.ref 448), zd P "__weakref__" 787 (.ref 449), zd P "__doc__" 788 .none] 4), #[]⟩
def o447_0 (P : Params) : Obj := ⟨(.type "type"), none, (.cls ⟨"Catalog", [(.type "object")], [(.ref 447), (.type "object")], 446, "Catalog", true, [], [], false, none, false⟩), #[none, none, (some (.str "Catalog" 650)), (some (.str "Catalog" 658)), (some (.builtin "object.__new__")), (some (.bool true))]⟩
def o448_0 (P : Params) : Obj := ⟨(.type "getset_descriptor"), none, (.fields #[(.str "__dict__" 784), (.ref 447), (.builtin "function.__dict__"), (.builtin "function.__dict__#set")]), #[]⟩
def o449_0 (P : Params) : Obj := ⟨(.type "getset_descriptor"), none, (.fields #[(.str "__weakref__" 786), (.ref 447), (.builtin "ExceptionGroup.__weakref__"), .none]), #[]⟩
def o450_0 (P : Params) : Obj := ⟨(.type "super"), none, (.fields #[(.ref 447), (.ref 447), (.ref 447)]), #[]⟩
def o451_0 (P : Params) : Obj := ⟨(.type "builtin_function_or_method"), none, (.fields #[(.builtin "object.__init_subclass__"), (.ref 447)]), #[]⟩
def t2 (P : Params) : BT := (nd (PySem.W.boot_o_0 P) (nd (PySem.W.boot_o_1 P) (nd (o3_1 P) (nd (PySem.W.boot_o_7 P) (nd (o15_0 P) (nd (o31_0 P) (nd (o63_0 P) (nd (o127_0 P) (nd (o255_0 P) lf lf) (nd (o383_0 P) lf lf)) (nd (o191_0 P) (nd (o319_0 P) lf lf) (nd (o447_0 P) lf lf))) (nd (o95_0 P) (nd (o159_0 P) (nd (o287_0 P) lf lf) (nd (o415_0 P) lf lf)) (nd (o223_0 P) (nd (o351_0 P) lf lf) lf))) (nd (o47_0 P) (nd (o79_0 P) (nd (o143_0 P) (nd (o271_0 P) lf lf) (nd (o399_0 P) lf lf)) (nd (o207_0 P) (nd (o335_0 P) lf lf) lf)) (nd (o111_0 P) (nd (o175_0 P) (nd (o303_0 P) lf lf) (nd (o431_0 P) lf lf)) (nd (o239_0 P) (nd (o367_0 P) lf lf) lf)))) (nd (o23_0 P) (nd (o39_0 P) (nd (o71_0 P) (nd (o135_0 P) (nd (o263_0 P) lf lf) (nd (o391_0 P) lf lf)) (nd (o199_0 P) (nd (o327_0 P) lf lf) lf)) (nd (o103_0 P) (nd (o167_0 P) (nd (o295_0 P) lf lf) (nd (o423_0 P) lf lf)) (nd (o231_0 P) (nd (o359_0 P) lf lf) lf))) (nd (o55_0 P) (nd (o87_0 P) (nd (o151_0 P) (nd (o279_0 P) lf lf) (nd (o407_0 P) lf lf)) (nd (o215_0 P) (nd (o343_0 P) lf lf) lf)) (nd (o119_0 P) (nd (o183_0 P) (nd (o311_0 P) lf lf) (nd (o439_0 P) lf lf)) (nd (o247_0 P) (nd (o375_0 P) lf lf) lf))))) (nd (o11_0 P) (nd (o19_0 P) (nd (o35_0 P) (nd (o67_0 P) (nd (o131_0 P) (nd (o259_0 P) lf lf) (nd (o387_0 P) lf lf)) (nd (o195_0 P) (nd (o323_0 P) lf lf) (nd (o451_0 P) lf lf))) (nd (o99_0 P) (nd (o163_0 P) (nd (o291_0 P) lf lf) (nd (o419_0 P) lf lf)) (nd (o227_0 P) (nd (o355_0 P) lf lf) lf))) (nd (o51_0 P) (nd (o83_0 P) (nd (o147_0 P) (nd (o275_0 P) lf lf) (nd (o403_0 P) lf lf)) (nd (o211_0 P) (nd (o339_0 P) lf lf) lf)) (nd (o115_0 P) (nd (o179_0 P) (nd (o307_0 P) lf lf) (nd (o435_0 P) lf lf)) (nd (o243_0 P) (nd (o371_0 P) lf lf) lf)))) (nd (o27_0 P) (nd (o43_0 P) (nd (o75_0 P) (nd (o139_0 P) (nd (o267_0 P) lf lf) (nd (o395_0 P) lf lf)) (nd (o203_0 P) (nd (o331_0 P) lf lf) lf)) (nd (o107_0 P) (nd (o171_0 P) (nd (o299_0 P) lf lf) (nd (o427_0 P) lf lf)) (nd (o235_0 P) (nd (o363_0 P) lf lf) lf))) (nd (o59_0 P) (nd (o91_0 P) (nd (o155_0 P) (nd (o283_0 P) lf lf) (nd (o411_0 P) lf lf)) (nd (o219_0 P) (nd (o347_0 P) lf lf) lf)) (nd (o123_0 P) (nd (o187_0 P) (nd (o315_0 P) lf lf) (nd (o443_0 P) lf lf)) (nd (o251_0 P) (nd (o379_0 P) lf lf) lf)))))) (nd (PySem.W.boot_o_5 P) (nd (PySem.W.boot_o_9 P) (nd (o17_0 P) (nd (o33_0 P) (nd (o65_0 P) (nd (o129_0 P) (nd (o257_0 P) lf lf) (nd (o385_0 P) lf lf)) (nd (o193_0 P) (nd (o321_0 P) lf lf) (nd (o449_0 P) lf lf))) (nd (o97_0 P) (nd (o161_0 P) (nd (o289_0 P) lf lf) (nd (o417_0 P) lf lf)) (nd (o225_0 P) (nd (o353_0 P) lf lf) lf))) (nd (o49_0 P) (nd (o81_0 P) (nd (o145_0 P) (nd (o273_0 P) lf lf) (nd (o401_0 P) lf lf)) (nd (o209_0 P) (nd (o337_0 P) lf lf) lf)) (nd (o113_0 P) (nd (o177_0 P) (nd (o305_0 P) lf lf) (nd (o433_0 P) lf lf)) (nd (o241_0 P) (nd (o369_0 P) lf lf) lf)))) (nd (o25_0 P) (nd (o41_0 P) (nd (o73_0 P) (nd (o137_0 P) (nd (o265_0 P) lf lf) (nd (o393_0 P) lf lf)) (nd (o201_0 P) (nd (o329_0 P) lf lf) lf)) (nd (o105_0 P) (nd (o169_0 P) (nd (o297_0 P) lf lf) (nd (o425_0 P) lf lf)) (nd (o233_0 P) (nd (o361_0 P) lf lf) lf))) (nd (o57_0 P) (nd (o89_0 P) (nd (o153_0 P) (nd (o281_0 P) lf lf) (nd (o409_0 P) lf lf)) (nd (o217_0 P) (nd (o345_0 P) lf lf) lf)) (nd (o121_0 P) (nd (o185_0 P) (nd (o313_0 P) lf lf) (nd (o441_0 P) lf lf)) (nd (o249_0 P) (nd (o377_0 P) lf lf) lf))))) (nd (o13_0 P) (nd (o21_0 P) (nd (o37_0 P) (nd (o69_0 P) (nd (o133_0 P) (nd (o261_0 P) lf lf) (nd (o389_0 P) lf lf)) (nd (o197_0 P) (nd (o325_0 P) lf lf) lf)) (nd (o101_0 P) (nd (o165_0 P) (nd (o293_0 P) lf lf) (nd (o421_0 P) lf lf)) (nd (o229_0 P) (nd (o357_0 P) lf lf) lf))) (nd (o53_0 P) (nd (o85_0 P) (nd (o149_0 P) (nd (o277_0 P) lf lf) (nd (o405_0 P) lf lf)) (nd (o213_0 P) (nd (o341_0 P) lf lf) lf)) (nd (o117_0 P) (nd (o181_0 P) (nd (o309_0 P) lf lf) (nd (o437_0 P) lf lf)) (nd (o245_0 P) (nd (o373_0 P) lf lf) lf)))) (nd (o29_0 P) (nd (o45_0 P) (nd (o77_0 P) (nd (o141_0 P) (nd (o269_0 P) lf lf) (nd (o397_0 P) lf lf)) (nd (o205_0 P) (nd (o333_0 P) lf lf) lf)) (nd (o109_0 P) (nd (o173_0 P) (nd (o301_0 P) lf lf) (nd (o429_0 P) lf lf)) (nd (o237_0 P) (nd (o365_0 P) lf lf) lf))) (nd (o61_0 P) (nd (o93_0 P) (nd (o157_0 P) (nd (o285_0 P) lf lf) (nd (o413_0 P) lf lf)) (nd (o221_0 P) (nd (o349_0 P) lf lf) lf)) (nd (o125_0 P) (nd (o189_0 P) (nd (o317_0 P) lf lf) (nd (o445_0 P) lf lf)) (nd (o253_0 P) (nd (o381_0 P) lf lf) lf))))))) (nd (PySem.W.boot_o_2 P) (nd (PySem.W.boot_o_4 P) (nd (PySem.W.boot_o_8 P) (nd (o16_0 P) (nd (o32_0 P) (nd (o64_0 P) (nd (o128_0 P) (nd (o256_0 P) lf lf) (nd (o384_0 P) lf lf)) (nd (o192_0 P) (nd (o320_0 P) lf lf) (nd (o448_0 P) lf lf))) (nd (o96_0 P) (nd (o160_0 P) (nd (o288_0 P) lf lf) (nd (o416_0 P) lf lf)) (nd (o224_0 P) (nd (o352_0 P) lf lf) lf))) (nd (o48_0 P) (nd (o80_0 P) (nd (o144_0 P) (nd (o272_0 P) lf lf) (nd (o400_0 P) lf lf)) (nd (o208_0 P) (nd (o336_0 P) lf lf) lf)) (nd (o112_0 P) (nd (o176_0 P) (nd (o304_0 P) lf lf) (nd (o432_0 P) lf lf)) (nd (o240_0 P) (nd (o368_0 P) lf lf) lf)))) (nd (o24_0 P) (nd (o40_0 P) (nd (o72_0 P) (nd (o136_0 P) (nd (o264_0 P) lf lf) (nd (o392_0 P) lf lf)) (nd (o200_0 P) (nd (o328_0 P) lf lf) lf)) (nd (o104_0 P) (nd (o168_0 P) (nd (o296_0 P) lf lf) (nd (o424_0 P) lf lf)) (nd (o232_0 P) (nd (o360_0 P) lf lf) lf))) (nd (o56_0 P) (nd (o88_0 P) (nd (o152_0 P) (nd (o280_0 P) lf lf) (nd (o408_0 P) lf lf)) (nd (o216_0 P) (nd (o344_0 P) lf lf) lf)) (nd (o120_0 P) (nd (o184_0 P) (nd (o312_0 P) lf lf) (nd (o440_0 P) lf lf)) (nd (o248_0 P) (nd (o376_0 P) lf lf) lf))))) (nd (o12_2 P) (nd (o20_0 P) (nd (o36_0 P) (nd (o68_0 P) (nd (o132_0 P) (nd (o260_0 P) lf lf) (nd (o388_0 P) lf lf)) (nd (o196_0 P) (nd (o324_0 P) lf lf) lf)) (nd (o100_0 P) (nd (o164_0 P) (nd (o292_0 P) lf lf) (nd (o420_0 P) lf lf)) (nd (o228_0 P) (nd (o356_0 P) lf lf) lf))) (nd (o52_0 P) (nd (o84_0 P) (nd (o148_0 P) (nd (o276_0 P) lf lf) (nd (o404_0 P) lf lf)) (nd (o212_0 P) (nd (o340_0 P) lf lf) lf)) (nd (o116_0 P) (nd (o180_0 P) (nd (o308_0 P) lf lf) (nd (o436_0 P) lf lf)) (nd (o244_0 P) (nd (o372_0 P) lf lf) lf)))) (nd (o28_0 P) (nd (o44_0 P) (nd (o76_0 P) (nd (o140_0 P) (nd (o268_0 P) lf lf) (nd (o396_0 P) lf lf)) (nd (o204_0 P) (nd (o332_0 P) lf lf) lf)) (nd (o108_0 P) (nd (o172_0 P) (nd (o300_0 P) lf lf) (nd (o428_0 P) lf lf)) (nd (o236_0 P) (nd (o364_0 P) lf lf) lf))) (nd (o60_0 P) (nd (o92_0 P) (nd (o156_0 P) (nd (o284_0 P) lf lf) (nd (o412_0 P) lf lf)) (nd (o220_0 P) (nd (o348_0 P) lf lf) lf)) (nd (o124_0 P) (nd (o188_0 P) (nd (o316_0 P) lf lf) (nd (o444_0 P) lf lf)) (nd (o252_0 P) (nd (o380_0 P) lf lf) lf)))))) (nd (PySem.W.boot_o_6 P) (nd (PySem.W.boot_o_10 P) (nd (o18_0 P) (nd (o34_0 P) (nd (o66_0 P) (nd (o130_0 P) (nd (o258_0 P) lf lf) (nd (o386_0 P) lf lf)) (nd (o194_0 P) (nd (o322_0 P) lf lf) (nd (o450_0 P) lf lf))) (nd (o98_0 P) (nd (o162_0 P) (nd (o290_0 P) lf lf) (nd (o418_0 P) lf lf)) (nd (o226_0 P) (nd (o354_0 P) lf lf) lf))) (nd (o50_0 P) (nd (o82_0 P) (nd (o146_0 P) (nd (o274_0 P) lf lf) (nd (o402_0 P) lf lf)) (nd (o210_0 P) (nd (o338_0 P) lf lf) lf)) (nd (o114_0 P) (nd (o178_0 P) (nd (o306_0 P) lf lf) (nd (o434_0 P) lf lf)) (nd (o242_0 P) (nd (o370_0 P) lf lf) lf)))) (nd (o26_0 P) (nd (o42_0 P) (nd (o74_0 P) (nd (o138_0 P) (nd (o266_0 P) lf lf) (nd (o394_0 P) lf lf)) (nd (o202_0 P) (nd (o330_0 P) lf lf) lf)) (nd (o106_0 P) (nd (o170_0 P) (nd (o298_0 P) lf lf) (nd (o426_0 P) lf lf)) (nd (o234_0 P) (nd (o362_0 P) lf lf) lf))) (nd (o58_0 P) (nd (o90_0 P) (nd (o154_0 P) (nd (o282_0 P) lf lf) (nd (o410_0 P) lf lf)) (nd (o218_0 P) (nd (o346_0 P) lf lf) lf)) (nd (o122_0 P) (nd (o186_0 P) (nd (o314_0 P) lf lf) (nd (o442_0 P) lf lf)) (nd (o250_0 P) (nd (o378_0 P) lf lf) lf))))) (nd (o14_0 P) (nd (o22_0 P) (nd (o38_0 P) (nd (o70_0 P) (nd (o134_0 P) (nd (o262_0 P) lf lf) (nd (o390_0 P) lf lf)) (nd (o198_0 P) (nd (o326_0 P) lf lf) lf)) (nd (o102_0 P) (nd (o166_0 P) (nd (o294_0 P) lf lf) (nd (o422_0 P) lf lf)) (nd (o230_0 P) (nd (o358_0 P) lf lf) lf))) (nd (o54_0 P) (nd (o86_0 P) (nd (o150_0 P) (nd (o278_0 P) lf lf) (nd (o406_0 P) lf lf)) (nd (o214_0 P) (nd (o342_0 P) lf lf) lf)) (nd (o118_0 P) (nd (o182_0 P) (nd (o310_0 P) lf lf) (nd (o438_0 P) lf lf)) (nd (o246_0 P) (nd (o374_0 P) lf lf) lf)))) (nd (o30_0 P) (nd (o46_0 P) (nd (o78_0 P) (nd (o142_0 P) (nd (o270_0 P) lf lf) (nd (o398_0 P) lf lf)) (nd (o206_0 P) (nd (o334_0 P) lf lf) lf)) (nd (o110_0 P) (nd (o174_0 P) (nd (o302_0 P) lf lf) (nd (o430_0 P) lf lf)) (nd (o238_0 P) (nd (o366_0 P) lf lf) lf))) (nd (o62_0 P) (nd (o94_0 P) (nd (o158_0 P) (nd (o286_0 P) lf lf) (nd (o414_0 P) lf lf)) (nd (o222_0 P) (nd (o350_0 P) lf lf) lf)) (nd (o126_0 P) (nd (o190_0 P) (nd (o318_0 P) lf lf) (nd (o446_0 P) lf lf)) (nd (o254_0 P) (nd (o382_0 P) lf lf) lf))))))))
def s2 (w : World) (os : OsState) : SharedT := ⟨t2 w.params, 452, { }, #[], ⟨0, 0, 0, 0⟩, 793, os⟩
abbrev l2 : List Stmt := (bE.drop 19).take 5
theorem seg2 (w : World) (os : OsState) : segRunT treeTable pr w 11 annV 1 1455 (s1 w os) (piecesOf l2 env cE ⟨88, 0, 88, 8⟩ fB) = some (.next, s2 w os, cE, ⟨288, 0, 288, 8⟩) := seg_q (by kernel_rfl)
def o3_2 (P : Params) : Obj := ⟨(.type "dict"), none, (.dict (List.toArray (zd P "__name__" 165 (.str "surenear.records.schema" 791) :: zd P "__doc__" 166 .none :: zd P "__package__" 167 .none :: zd P "__loader__" 168 (.builtin "__main__.__loader__#opaque") :: zd P "__spec__" 169 .none :: zd P "__annotations__" 170 (.ref 6) :: zd P "__builtins__" 171 (.ref 4) :: zd P "__file__" 173 (.str "/claim/cut.py" 172) :: zd P "__cached__" 174 .none :: zd P "_wall" 193 (.ref 21) :: zd P "SurenearError" 213 (.ref 31) :: zd P "InvalidSchema" 229 (.ref 44) :: zd P "InvalidRecord" 245 (.ref 56) :: zd P "InvalidKey" 261 (.ref 68) :: zd P "NotPinned" 277 (.ref 80) :: zd P "PRIME" 281 (.int 4294967291 280) :: zd P "string_part" 287 (.ref 87) :: zd P "value_part" 294 (.ref 94) :: zd P "row_of" 307 (.ref 101) :: zd P "check_key" 315 (.ref 108) :: zd P "fold" 325 (.ref 115) :: zd P "mark_of" 335 (.ref 122) :: zd P "Note" 426 (.ref 176) :: zd P "Segment" 464 (.ref 202) :: zd P "Ledger" 641 (.ref 341) :: zd P "put_route" 649 (.ref 350) :: zd P "Catalog" 790 (.ref 447) :: zd P "RANGES" 807 (.ref 452) :: [])) 28), #[]⟩
def o452_0 (P : Params) : Obj := ⟨(.type "dict"), none, (.dict #[zd P "bit" 793 (.ref 453), zd P "small" 796 (.ref 454), zd P "wide" 800 (.ref 455)] 3), #[]⟩
def o453_0 (P : Params) : Obj := ⟨(.type "tuple"), none, (.seq #[(.int 0 794), (.int 1 795)] 0), #[]⟩
def o454_0 (P : Params) : Obj := ⟨(.type "tuple"), none, (.seq #[(.int (-128) 798), (.int 127 799)] 0), #[]⟩
def o455_0 (P : Params) : Obj := ⟨(.type "tuple"), none, (.seq #[(.int (-32768) 802), (.int 32767 803)] 0), #[]⟩
def t3 (P : Params) : BT := (nd (PySem.W.boot_o_0 P) (nd (PySem.W.boot_o_1 P) (nd (o3_2 P) (nd (PySem.W.boot_o_7 P) (nd (o15_0 P) (nd (o31_0 P) (nd (o63_0 P) (nd (o127_0 P) (nd (o255_0 P) lf lf) (nd (o383_0 P) lf lf)) (nd (o191_0 P) (nd (o319_0 P) lf lf) (nd (o447_0 P) lf lf))) (nd (o95_0 P) (nd (o159_0 P) (nd (o287_0 P) lf lf) (nd (o415_0 P) lf lf)) (nd (o223_0 P) (nd (o351_0 P) lf lf) lf))) (nd (o47_0 P) (nd (o79_0 P) (nd (o143_0 P) (nd (o271_0 P) lf lf) (nd (o399_0 P) lf lf)) (nd (o207_0 P) (nd (o335_0 P) lf lf) lf)) (nd (o111_0 P) (nd (o175_0 P) (nd (o303_0 P) lf lf) (nd (o431_0 P) lf lf)) (nd (o239_0 P) (nd (o367_0 P) lf lf) lf)))) (nd (o23_0 P) (nd (o39_0 P) (nd (o71_0 P) (nd (o135_0 P) (nd (o263_0 P) lf lf) (nd (o391_0 P) lf lf)) (nd (o199_0 P) (nd (o327_0 P) lf lf) (nd (o455_0 P) lf lf))) (nd (o103_0 P) (nd (o167_0 P) (nd (o295_0 P) lf lf) (nd (o423_0 P) lf lf)) (nd (o231_0 P) (nd (o359_0 P) lf lf) lf))) (nd (o55_0 P) (nd (o87_0 P) (nd (o151_0 P) (nd (o279_0 P) lf lf) (nd (o407_0 P) lf lf)) (nd (o215_0 P) (nd (o343_0 P) lf lf) lf)) (nd (o119_0 P) (nd (o183_0 P) (nd (o311_0 P) lf lf) (nd (o439_0 P) lf lf)) (nd (o247_0 P) (nd (o375_0 P) lf lf) lf))))) (nd (o11_0 P) (nd (o19_0 P) (nd (o35_0 P) (nd (o67_0 P) (nd (o131_0 P) (nd (o259_0 P) lf lf) (nd (o387_0 P) lf lf)) (nd (o195_0 P) (nd (o323_0 P) lf lf) (nd (o451_0 P) lf lf))) (nd (o99_0 P) (nd (o163_0 P) (nd (o291_0 P) lf lf) (nd (o419_0 P) lf lf)) (nd (o227_0 P) (nd (o355_0 P) lf lf) lf))) (nd (o51_0 P) (nd (o83_0 P) (nd (o147_0 P) (nd (o275_0 P) lf lf) (nd (o403_0 P) lf lf)) (nd (o211_0 P) (nd (o339_0 P) lf lf) lf)) (nd (o115_0 P) (nd (o179_0 P) (nd (o307_0 P) lf lf) (nd (o435_0 P) lf lf)) (nd (o243_0 P) (nd (o371_0 P) lf lf) lf)))) (nd (o27_0 P) (nd (o43_0 P) (nd (o75_0 P) (nd (o139_0 P) (nd (o267_0 P) lf lf) (nd (o395_0 P) lf lf)) (nd (o203_0 P) (nd (o331_0 P) lf lf) lf)) (nd (o107_0 P) (nd (o171_0 P) (nd (o299_0 P) lf lf) (nd (o427_0 P) lf lf)) (nd (o235_0 P) (nd (o363_0 P) lf lf) lf))) (nd (o59_0 P) (nd (o91_0 P) (nd (o155_0 P) (nd (o283_0 P) lf lf) (nd (o411_0 P) lf lf)) (nd (o219_0 P) (nd (o347_0 P) lf lf) lf)) (nd (o123_0 P) (nd (o187_0 P) (nd (o315_0 P) lf lf) (nd (o443_0 P) lf lf)) (nd (o251_0 P) (nd (o379_0 P) lf lf) lf)))))) (nd (PySem.W.boot_o_5 P) (nd (PySem.W.boot_o_9 P) (nd (o17_0 P) (nd (o33_0 P) (nd (o65_0 P) (nd (o129_0 P) (nd (o257_0 P) lf lf) (nd (o385_0 P) lf lf)) (nd (o193_0 P) (nd (o321_0 P) lf lf) (nd (o449_0 P) lf lf))) (nd (o97_0 P) (nd (o161_0 P) (nd (o289_0 P) lf lf) (nd (o417_0 P) lf lf)) (nd (o225_0 P) (nd (o353_0 P) lf lf) lf))) (nd (o49_0 P) (nd (o81_0 P) (nd (o145_0 P) (nd (o273_0 P) lf lf) (nd (o401_0 P) lf lf)) (nd (o209_0 P) (nd (o337_0 P) lf lf) lf)) (nd (o113_0 P) (nd (o177_0 P) (nd (o305_0 P) lf lf) (nd (o433_0 P) lf lf)) (nd (o241_0 P) (nd (o369_0 P) lf lf) lf)))) (nd (o25_0 P) (nd (o41_0 P) (nd (o73_0 P) (nd (o137_0 P) (nd (o265_0 P) lf lf) (nd (o393_0 P) lf lf)) (nd (o201_0 P) (nd (o329_0 P) lf lf) lf)) (nd (o105_0 P) (nd (o169_0 P) (nd (o297_0 P) lf lf) (nd (o425_0 P) lf lf)) (nd (o233_0 P) (nd (o361_0 P) lf lf) lf))) (nd (o57_0 P) (nd (o89_0 P) (nd (o153_0 P) (nd (o281_0 P) lf lf) (nd (o409_0 P) lf lf)) (nd (o217_0 P) (nd (o345_0 P) lf lf) lf)) (nd (o121_0 P) (nd (o185_0 P) (nd (o313_0 P) lf lf) (nd (o441_0 P) lf lf)) (nd (o249_0 P) (nd (o377_0 P) lf lf) lf))))) (nd (o13_0 P) (nd (o21_0 P) (nd (o37_0 P) (nd (o69_0 P) (nd (o133_0 P) (nd (o261_0 P) lf lf) (nd (o389_0 P) lf lf)) (nd (o197_0 P) (nd (o325_0 P) lf lf) (nd (o453_0 P) lf lf))) (nd (o101_0 P) (nd (o165_0 P) (nd (o293_0 P) lf lf) (nd (o421_0 P) lf lf)) (nd (o229_0 P) (nd (o357_0 P) lf lf) lf))) (nd (o53_0 P) (nd (o85_0 P) (nd (o149_0 P) (nd (o277_0 P) lf lf) (nd (o405_0 P) lf lf)) (nd (o213_0 P) (nd (o341_0 P) lf lf) lf)) (nd (o117_0 P) (nd (o181_0 P) (nd (o309_0 P) lf lf) (nd (o437_0 P) lf lf)) (nd (o245_0 P) (nd (o373_0 P) lf lf) lf)))) (nd (o29_0 P) (nd (o45_0 P) (nd (o77_0 P) (nd (o141_0 P) (nd (o269_0 P) lf lf) (nd (o397_0 P) lf lf)) (nd (o205_0 P) (nd (o333_0 P) lf lf) lf)) (nd (o109_0 P) (nd (o173_0 P) (nd (o301_0 P) lf lf) (nd (o429_0 P) lf lf)) (nd (o237_0 P) (nd (o365_0 P) lf lf) lf))) (nd (o61_0 P) (nd (o93_0 P) (nd (o157_0 P) (nd (o285_0 P) lf lf) (nd (o413_0 P) lf lf)) (nd (o221_0 P) (nd (o349_0 P) lf lf) lf)) (nd (o125_0 P) (nd (o189_0 P) (nd (o317_0 P) lf lf) (nd (o445_0 P) lf lf)) (nd (o253_0 P) (nd (o381_0 P) lf lf) lf))))))) (nd (PySem.W.boot_o_2 P) (nd (PySem.W.boot_o_4 P) (nd (PySem.W.boot_o_8 P) (nd (o16_0 P) (nd (o32_0 P) (nd (o64_0 P) (nd (o128_0 P) (nd (o256_0 P) lf lf) (nd (o384_0 P) lf lf)) (nd (o192_0 P) (nd (o320_0 P) lf lf) (nd (o448_0 P) lf lf))) (nd (o96_0 P) (nd (o160_0 P) (nd (o288_0 P) lf lf) (nd (o416_0 P) lf lf)) (nd (o224_0 P) (nd (o352_0 P) lf lf) lf))) (nd (o48_0 P) (nd (o80_0 P) (nd (o144_0 P) (nd (o272_0 P) lf lf) (nd (o400_0 P) lf lf)) (nd (o208_0 P) (nd (o336_0 P) lf lf) lf)) (nd (o112_0 P) (nd (o176_0 P) (nd (o304_0 P) lf lf) (nd (o432_0 P) lf lf)) (nd (o240_0 P) (nd (o368_0 P) lf lf) lf)))) (nd (o24_0 P) (nd (o40_0 P) (nd (o72_0 P) (nd (o136_0 P) (nd (o264_0 P) lf lf) (nd (o392_0 P) lf lf)) (nd (o200_0 P) (nd (o328_0 P) lf lf) lf)) (nd (o104_0 P) (nd (o168_0 P) (nd (o296_0 P) lf lf) (nd (o424_0 P) lf lf)) (nd (o232_0 P) (nd (o360_0 P) lf lf) lf))) (nd (o56_0 P) (nd (o88_0 P) (nd (o152_0 P) (nd (o280_0 P) lf lf) (nd (o408_0 P) lf lf)) (nd (o216_0 P) (nd (o344_0 P) lf lf) lf)) (nd (o120_0 P) (nd (o184_0 P) (nd (o312_0 P) lf lf) (nd (o440_0 P) lf lf)) (nd (o248_0 P) (nd (o376_0 P) lf lf) lf))))) (nd (o12_2 P) (nd (o20_0 P) (nd (o36_0 P) (nd (o68_0 P) (nd (o132_0 P) (nd (o260_0 P) lf lf) (nd (o388_0 P) lf lf)) (nd (o196_0 P) (nd (o324_0 P) lf lf) (nd (o452_0 P) lf lf))) (nd (o100_0 P) (nd (o164_0 P) (nd (o292_0 P) lf lf) (nd (o420_0 P) lf lf)) (nd (o228_0 P) (nd (o356_0 P) lf lf) lf))) (nd (o52_0 P) (nd (o84_0 P) (nd (o148_0 P) (nd (o276_0 P) lf lf) (nd (o404_0 P) lf lf)) (nd (o212_0 P) (nd (o340_0 P) lf lf) lf)) (nd (o116_0 P) (nd (o180_0 P) (nd (o308_0 P) lf lf) (nd (o436_0 P) lf lf)) (nd (o244_0 P) (nd (o372_0 P) lf lf) lf)))) (nd (o28_0 P) (nd (o44_0 P) (nd (o76_0 P) (nd (o140_0 P) (nd (o268_0 P) lf lf) (nd (o396_0 P) lf lf)) (nd (o204_0 P) (nd (o332_0 P) lf lf) lf)) (nd (o108_0 P) (nd (o172_0 P) (nd (o300_0 P) lf lf) (nd (o428_0 P) lf lf)) (nd (o236_0 P) (nd (o364_0 P) lf lf) lf))) (nd (o60_0 P) (nd (o92_0 P) (nd (o156_0 P) (nd (o284_0 P) lf lf) (nd (o412_0 P) lf lf)) (nd (o220_0 P) (nd (o348_0 P) lf lf) lf)) (nd (o124_0 P) (nd (o188_0 P) (nd (o316_0 P) lf lf) (nd (o444_0 P) lf lf)) (nd (o252_0 P) (nd (o380_0 P) lf lf) lf)))))) (nd (PySem.W.boot_o_6 P) (nd (PySem.W.boot_o_10 P) (nd (o18_0 P) (nd (o34_0 P) (nd (o66_0 P) (nd (o130_0 P) (nd (o258_0 P) lf lf) (nd (o386_0 P) lf lf)) (nd (o194_0 P) (nd (o322_0 P) lf lf) (nd (o450_0 P) lf lf))) (nd (o98_0 P) (nd (o162_0 P) (nd (o290_0 P) lf lf) (nd (o418_0 P) lf lf)) (nd (o226_0 P) (nd (o354_0 P) lf lf) lf))) (nd (o50_0 P) (nd (o82_0 P) (nd (o146_0 P) (nd (o274_0 P) lf lf) (nd (o402_0 P) lf lf)) (nd (o210_0 P) (nd (o338_0 P) lf lf) lf)) (nd (o114_0 P) (nd (o178_0 P) (nd (o306_0 P) lf lf) (nd (o434_0 P) lf lf)) (nd (o242_0 P) (nd (o370_0 P) lf lf) lf)))) (nd (o26_0 P) (nd (o42_0 P) (nd (o74_0 P) (nd (o138_0 P) (nd (o266_0 P) lf lf) (nd (o394_0 P) lf lf)) (nd (o202_0 P) (nd (o330_0 P) lf lf) lf)) (nd (o106_0 P) (nd (o170_0 P) (nd (o298_0 P) lf lf) (nd (o426_0 P) lf lf)) (nd (o234_0 P) (nd (o362_0 P) lf lf) lf))) (nd (o58_0 P) (nd (o90_0 P) (nd (o154_0 P) (nd (o282_0 P) lf lf) (nd (o410_0 P) lf lf)) (nd (o218_0 P) (nd (o346_0 P) lf lf) lf)) (nd (o122_0 P) (nd (o186_0 P) (nd (o314_0 P) lf lf) (nd (o442_0 P) lf lf)) (nd (o250_0 P) (nd (o378_0 P) lf lf) lf))))) (nd (o14_0 P) (nd (o22_0 P) (nd (o38_0 P) (nd (o70_0 P) (nd (o134_0 P) (nd (o262_0 P) lf lf) (nd (o390_0 P) lf lf)) (nd (o198_0 P) (nd (o326_0 P) lf lf) (nd (o454_0 P) lf lf))) (nd (o102_0 P) (nd (o166_0 P) (nd (o294_0 P) lf lf) (nd (o422_0 P) lf lf)) (nd (o230_0 P) (nd (o358_0 P) lf lf) lf))) (nd (o54_0 P) (nd (o86_0 P) (nd (o150_0 P) (nd (o278_0 P) lf lf) (nd (o406_0 P) lf lf)) (nd (o214_0 P) (nd (o342_0 P) lf lf) lf)) (nd (o118_0 P) (nd (o182_0 P) (nd (o310_0 P) lf lf) (nd (o438_0 P) lf lf)) (nd (o246_0 P) (nd (o374_0 P) lf lf) lf)))) (nd (o30_0 P) (nd (o46_0 P) (nd (o78_0 P) (nd (o142_0 P) (nd (o270_0 P) lf lf) (nd (o398_0 P) lf lf)) (nd (o206_0 P) (nd (o334_0 P) lf lf) lf)) (nd (o110_0 P) (nd (o174_0 P) (nd (o302_0 P) lf lf) (nd (o430_0 P) lf lf)) (nd (o238_0 P) (nd (o366_0 P) lf lf) lf))) (nd (o62_0 P) (nd (o94_0 P) (nd (o158_0 P) (nd (o286_0 P) lf lf) (nd (o414_0 P) lf lf)) (nd (o222_0 P) (nd (o350_0 P) lf lf) lf)) (nd (o126_0 P) (nd (o190_0 P) (nd (o318_0 P) lf lf) (nd (o446_0 P) lf lf)) (nd (o254_0 P) (nd (o382_0 P) lf lf) lf))))))))
def s3 (w : World) (os : OsState) : SharedT := ⟨t3 w.params, 456, { }, #[], ⟨0, 0, 0, 0⟩, 808, os⟩
abbrev l3 : List Stmt := (bE.drop 24).take 1
theorem seg3f (w : World) : (fun w : World => ∀ os : OsState, segRunT treeTable pr w 11 annV 1 75 (s2 w os) (piecesOf l3 env cE ⟨288, 0, 288, 8⟩ fB) = some (.next, s3 w os, cE, ⟨289, 0, 289, 6⟩)) (w.withFollow "special-get-raises" false) := fun os => seg_q (by kernel_rfl)
theorem seg3t (w : World) : (fun w : World => ∀ os : OsState, segRunT treeTable pr w 11 annV 1 75 (s2 w os) (piecesOf l3 env cE ⟨288, 0, 288, 8⟩ fB) = some (.next, s3 w os, cE, ⟨289, 0, 289, 6⟩)) (w.withFollow "special-get-raises" true) := fun os => seg_q (by kernel_rfl)
theorem seg3 (w : World) (os : OsState) : segRunT treeTable pr w 11 annV 1 75 (s2 w os) (piecesOf l3 env cE ⟨288, 0, 288, 8⟩ fB) = some (.next, s3 w os, cE, ⟨289, 0, 289, 6⟩) := byRow2 "special-get-raises" (P := fun w : World => ∀ os : OsState, segRunT treeTable pr w 11 annV 1 75 (s2 w os) (piecesOf l3 env cE ⟨288, 0, 288, 8⟩ fB) = some (.next, s3 w os, cE, ⟨289, 0, 289, 6⟩)) seg3f seg3t w os
def o3_3 (P : Params) : Obj := ⟨(.type "dict"), none, (.dict (List.toArray (zd P "__name__" 165 (.str "law_surenear_k70_names_belong_to_shards" 977) :: zd P "__doc__" 166 .none :: zd P "__package__" 167 .none :: zd P "__loader__" 168 (.builtin "__main__.__loader__#opaque") :: zd P "__spec__" 169 .none :: zd P "__annotations__" 170 (.ref 6) :: zd P "__builtins__" 171 (.ref 4) :: zd P "__file__" 173 (.str "/claim/cut.py" 172) :: zd P "__cached__" 174 .none :: zd P "_wall" 193 (.ref 21) :: zd P "SurenearError" 213 (.ref 31) :: zd P "InvalidSchema" 229 (.ref 44) :: zd P "InvalidRecord" 245 (.ref 56) :: zd P "InvalidKey" 261 (.ref 68) :: zd P "NotPinned" 277 (.ref 80) :: zd P "PRIME" 281 (.int 4294967291 280) :: zd P "string_part" 287 (.ref 87) :: zd P "value_part" 294 (.ref 94) :: zd P "row_of" 307 (.ref 101) :: zd P "check_key" 315 (.ref 108) :: zd P "fold" 325 (.ref 115) :: zd P "mark_of" 335 (.ref 122) :: zd P "Note" 426 (.ref 176) :: zd P "Segment" 464 (.ref 202) :: zd P "Ledger" 641 (.ref 341) :: zd P "put_route" 649 (.ref 350) :: zd P "Catalog" 790 (.ref 447) :: zd P "RANGES" 807 (.ref 452) :: zd P "MEASURES" 811 (.ref 456) :: zd P "KINDS" 815 (.ref 457) :: zd P "WORDS" 824 (.ref 458) :: zd P "is_letter" 831 (.ref 465) :: zd P "is_digit" 838 (.ref 472) :: zd P "is_field_name" 846 (.ref 479) :: zd P "kind_of_value" 853 (.ref 486) :: zd P "words_fit" 863 (.ref 493) :: zd P "Schema" 976 (.ref 575) :: zd P "_law_row" 990 (.ref 586) :: zd P "_law_next" 999 (.ref 593) :: zd P "_law_word" 1008 (.ref 600) :: zd P "_law_due" 1019 (.ref 607) :: zd P "law" 1025 (.ref 612) :: [])) 42), #[]⟩
def o12_3 (P : Params) : Obj := ⟨.none, none, (.fields (List.toArray ((.int 1 0) :: (.int 0 0) :: (.ref 20) :: (.int 5 0) :: (.int 0 0) :: (.ref 27) :: (.int 7 0) :: (.int 0 0) :: (.ref 40) :: (.int 9 0) :: (.int 0 0) :: (.ref 52) :: (.int 11 0) :: (.int 0 0) :: (.ref 64) :: (.int 13 0) :: (.int 0 0) :: (.ref 76) :: (.int 17 0) :: (.int 0 0) :: (.ref 86) :: (.int 19 0) :: (.int 0 0) :: (.ref 93) :: (.int 25 0) :: (.int 0 0) :: (.ref 100) :: (.int 33 0) :: (.int 0 0) :: (.ref 107) :: (.int 37 0) :: (.int 0 0) :: (.ref 114) :: (.int 42 0) :: (.int 0 0) :: (.ref 121) :: (.int 46 0) :: (.int 0 0) :: (.ref 128) :: (.int 77 0) :: (.int 0 0) :: (.ref 186) :: (.int 89 0) :: (.int 0 0) :: (.ref 212) :: (.int 192 0) :: (.int 0 0) :: (.ref 349) :: (.int 195 0) :: (.int 0 0) :: (.ref 356) :: (.int 293 0) :: (.int 0 0) :: (.ref 464) :: (.int 295 0) :: (.int 0 0) :: (.ref 471) :: (.int 297 0) :: (.int 0 0) :: (.ref 478) :: (.int 304 0) :: (.int 0 0) :: (.ref 485) :: (.int 310 0) :: (.int 0 0) :: (.ref 492) :: (.int 317 0) :: (.int 0 0) :: (.ref 499) :: (.int 382 0) :: (.int 0 0) :: (.ref 585) :: (.int 394 0) :: (.int 0 0) :: (.ref 592) :: (.int 401 0) :: (.int 0 0) :: (.ref 599) :: (.int 406 0) :: (.int 0 0) :: (.ref 606) :: (.int 412 0) :: (.int 0 0) :: (.ref 611) :: []))), #[]⟩
def o456_0 (P : Params) : Obj := ⟨(.type "tuple"), none, (.seq #[(.str "square" 808), (.str "dot" 809), (.str "bits" 810)] 0), #[]⟩
def o457_0 (P : Params) : Obj := ⟨(.type "tuple"), none, (.seq #[(.str "integer" 812), (.str "text" 813), (.str "flag" 814)] 0), #[]⟩
def o458_0 (P : Params) : Obj := ⟨(.type "tuple"), none, (.seq #[(.str "every" 816), (.str "has" 817), (.str "in" 818), (.str "and" 819), (.str "or" 820), (.str "not" 821), (.str "true" 822), (.str "false" 823)] 0), #[]⟩
def o459_0 (P : Params) : Obj := ⟨(.type "tuple"), none, (.seq #[] 0), #[]⟩
def o460_0 (P : Params) : Obj := ⟨.none, none, (.fields #[]), #[]⟩
def o461_0 (P : Params) : Obj := ⟨(.type "tuple"), none, (.seq #[(.str "sign" 828)] 0), #[]⟩
def o462_0 (P : Params) : Obj := ⟨(.type "tuple"), none, (.seq #[] 0), #[]⟩
def o463_0 (P : Params) : Obj := ⟨.none, none, (.func (zf (tS 28) "is_letter" "is_letter" 0 [] .none .none .none .none none .none .none 0)), #[]⟩
def o464_0 (P : Params) : Obj := ⟨(.type "code"), none, (.fields #[(.str "is_letter" 825), (.str "is_letter" 826), (.str "/claim/cut.py" 827), (.int 293 0), (.int 1 0), (.int 0 0), (.int 0 0), (.int 3 0), (.ref 459), (.bool true), (.int 181 0), (.ref 460), .none, (.ref 461), (.ref 462), (.ref 463), (.int 829 0), (.int 293 0), (.str "/claim/cut.py" 830)]), #[]⟩
def o465_0 (P : Params) : Obj := ⟨(.type "function"), none, (.func (zf (tS 28) "is_letter" "is_letter" 3 [] .none .none .none (.str "surenear.records.schema" 791) none (.ref 464) .none 0)), #[]⟩
def o466_0 (P : Params) : Obj := ⟨(.type "tuple"), none, (.seq #[] 0), #[]⟩
def o467_0 (P : Params) : Obj := ⟨.none, none, (.fields #[]), #[]⟩
def o468_0 (P : Params) : Obj := ⟨(.type "tuple"), none, (.seq #[(.str "sign" 835)] 0), #[]⟩
def o469_0 (P : Params) : Obj := ⟨(.type "tuple"), none, (.seq #[] 0), #[]⟩
def o470_0 (P : Params) : Obj := ⟨.none, none, (.func (zf (tS 29) "is_digit" "is_digit" 0 [] .none .none .none .none none .none .none 0)), #[]⟩
def o471_0 (P : Params) : Obj := ⟨(.type "code"), none, (.fields #[(.str "is_digit" 832), (.str "is_digit" 833), (.str "/claim/cut.py" 834), (.int 295 0), (.int 1 0), (.int 0 0), (.int 0 0), (.int 3 0), (.ref 466), (.bool true), (.int 181 0), (.ref 467), .none, (.ref 468), (.ref 469), (.ref 470), (.int 836 0), (.int 295 0), (.str "/claim/cut.py" 837)]), #[]⟩
def o472_0 (P : Params) : Obj := ⟨(.type "function"), none, (.func (zf (tS 29) "is_digit" "is_digit" 3 [] .none .none .none (.str "surenear.records.schema" 791) none (.ref 471) .none 0)), #[]⟩
def o473_0 (P : Params) : Obj := ⟨(.type "tuple"), none, (.seq #[] 0), #[]⟩
def o474_0 (P : Params) : Obj := ⟨.none, none, (.fields #[]), #[]⟩
def o475_0 (P : Params) : Obj := ⟨(.type "tuple"), none, (.seq #[(.str "name" 842), (.str "sign" 843)] 0), #[]⟩
def o476_0 (P : Params) : Obj := ⟨(.type "tuple"), none, (.seq #[] 0), #[]⟩
def o477_0 (P : Params) : Obj := ⟨.none, none, (.func (zf (tS 30) "is_field_name" "is_field_name" 0 [] .none .none .none .none none .none .none 0)), #[]⟩
def o478_0 (P : Params) : Obj := ⟨(.type "code"), none, (.fields #[(.str "is_field_name" 839), (.str "is_field_name" 840), (.str "/claim/cut.py" 841), (.int 297 0), (.int 1 0), (.int 0 0), (.int 0 0), (.int 3 0), (.ref 473), (.bool true), (.int 181 0), (.ref 474), .none, (.ref 475), (.ref 476), (.ref 477), (.int 844 0), (.int 297 0), (.str "/claim/cut.py" 845)]), #[]⟩
def o479_0 (P : Params) : Obj := ⟨(.type "function"), none, (.func (zf (tS 30) "is_field_name" "is_field_name" 3 [] .none .none .none (.str "surenear.records.schema" 791) none (.ref 478) .none 0)), #[]⟩
def o480_0 (P : Params) : Obj := ⟨(.type "tuple"), none, (.seq #[] 0), #[]⟩
def o481_0 (P : Params) : Obj := ⟨.none, none, (.fields #[]), #[]⟩
def o482_0 (P : Params) : Obj := ⟨(.type "tuple"), none, (.seq #[(.str "worth" 850)] 0), #[]⟩
def o483_0 (P : Params) : Obj := ⟨(.type "tuple"), none, (.seq #[] 0), #[]⟩
def o484_0 (P : Params) : Obj := ⟨.none, none, (.func (zf (tS 31) "kind_of_value" "kind_of_value" 0 [] .none .none .none .none none .none .none 0)), #[]⟩
def o485_0 (P : Params) : Obj := ⟨(.type "code"), none, (.fields #[(.str "kind_of_value" 847), (.str "kind_of_value" 848), (.str "/claim/cut.py" 849), (.int 304 0), (.int 1 0), (.int 0 0), (.int 0 0), (.int 3 0), (.ref 480), (.bool true), (.int 181 0), (.ref 481), .none, (.ref 482), (.ref 483), (.ref 484), (.int 851 0), (.int 304 0), (.str "/claim/cut.py" 852)]), #[]⟩
def o486_0 (P : Params) : Obj := ⟨(.type "function"), none, (.func (zf (tS 31) "kind_of_value" "kind_of_value" 3 [] .none .none .none (.str "surenear.records.schema" 791) none (.ref 485) .none 0)), #[]⟩
def o487_0 (P : Params) : Obj := ⟨(.type "tuple"), none, (.seq #[] 0), #[]⟩
def o488_0 (P : Params) : Obj := ⟨.none, none, (.fields #[]), #[]⟩
def o489_0 (P : Params) : Obj := ⟨(.type "tuple"), none, (.seq #[(.str "words" 857), (.str "before" 858), (.str "word" 859), (.str "count" 860)] 0), #[]⟩
def o490_0 (P : Params) : Obj := ⟨(.type "tuple"), none, (.seq #[] 0), #[]⟩
def o491_0 (P : Params) : Obj := ⟨.none, none, (.func (zf (tS 32) "words_fit" "words_fit" 0 [] .none .none .none .none none .none .none 0)), #[]⟩
def o492_0 (P : Params) : Obj := ⟨(.type "code"), none, (.fields #[(.str "words_fit" 854), (.str "words_fit" 855), (.str "/claim/cut.py" 856), (.int 310 0), (.int 1 0), (.int 0 0), (.int 0 0), (.int 3 0), (.ref 487), (.bool true), (.int 181 0), (.ref 488), .none, (.ref 489), (.ref 490), (.ref 491), (.int 861 0), (.int 310 0), (.str "/claim/cut.py" 862)]), #[]⟩
def o493_0 (P : Params) : Obj := ⟨(.type "function"), none, (.func (zf (tS 32) "words_fit" "words_fit" 3 [] .none .none .none (.str "surenear.records.schema" 791) none (.ref 492) .none 0)), #[]⟩
def o494_0 (P : Params) : Obj := ⟨(.type "tuple"), none, (.seq #[] 0), #[]⟩
def o495_0 (P : Params) : Obj := ⟨(.type "builtin_function_or_method"), none, (.fields #[(.builtin "type.__prepare__"), (.type "type")]), #[]⟩
def o496_0 (P : Params) : Obj := ⟨(.type "dict"), none, (.dict #[zd P "__module__" 871 (.str "surenear.records.schema" 791), zd P "__qualname__" 873 (.str "Schema" 872), zd P "__firstlineno__" 875 (.int 317 874), zd P "__init__" 886 (.ref 507), zd P "least" 894 (.ref 515), zd P "greatest" 902 (.ref 523), zd P "kind_of" 910 (.ref 530), zd P "far" 919 (.ref 537), zd P "has_vector" 928 (.ref 544), zd P "has_fields" 939 (.ref 551), zd P "__contains__" 947 (.ref 558), zd P "check" 955 (.ref 565), zd P "__eq__" 963 (.ref 572), zd P "__static_attributes__" 968 (.ref 573)] 14), #[]⟩
def o497_0 (P : Params) : Obj := ⟨(.type "tuple"), none, (.seq #[] 0), #[]⟩
def o498_0 (P : Params) : Obj := ⟨.none, none, (.fields (List.toArray ((.int 319 0) :: (.int 4 0) :: (.ref 506) :: (.int 335 0) :: (.int 4 0) :: (.ref 513) :: (.int 339 0) :: (.int 4 0) :: (.ref 521) :: (.int 342 0) :: (.int 4 0) :: (.ref 529) :: (.int 345 0) :: (.int 4 0) :: (.ref 536) :: (.int 348 0) :: (.int 4 0) :: (.ref 543) :: (.int 356 0) :: (.int 4 0) :: (.ref 550) :: (.int 366 0) :: (.int 4 0) :: (.ref 557) :: (.int 371 0) :: (.int 4 0) :: (.ref 564) :: (.int 375 0) :: (.int 4 0) :: (.ref 571) :: []))), #[]⟩
def o499_0 (P : Params) : Obj := ⟨(.type "code"), none, (.fields #[(.str "Schema" 866), (.str "Schema" 867), (.str "/claim/cut.py" 868), (.int 317 0), (.int 0 0), (.int 0 0), (.int 0 0), (.int 0 0), (.ref 497), (.bool false), (.int 181 0), (.ref 498), .none, .none, .none, .none, (.int 869 0), (.int 317 0), (.str "/claim/cut.py" 870)]), #[]⟩
def o500_0 (P : Params) : Obj := ⟨(.type "frame"), none, .plain, #[(some (.ref 499)), (some (.ref 3)), (some (.ref 496)), none, (some (.str "surenear.records.schema" 791)), none, (some (.ref 0))]⟩
def o501_0 (P : Params) : Obj := ⟨(.type "tuple"), none, (.seq #[] 0), #[]⟩
def o502_0 (P : Params) : Obj := ⟨(.type "dict"), none, (.dict #[zd P "width" 878 (.str "small" 876), zd P "measure" 879 (.str "square" 877), zd P "fields" 880 (.ref 501)] 3), #[]⟩
def o503_0 (P : Params) : Obj := ⟨(.type "tuple"), none, (.seq #[] 0), #[]⟩
def o504_0 (P : Params) : Obj := ⟨.none, none, (.fields #[]), #[]⟩
def o505_0 (P : Params) : Obj := ⟨.none, none, (.func (zf (mS 33 0) "__init__" "Schema.__init__" 0 [] .none .none .none .none none .none .none 0)), #[]⟩
def o506_0 (P : Params) : Obj := ⟨(.type "code"), none, (.fields #[(.str "__init__" 881), (.str "Schema.__init__" 882), (.str "/claim/cut.py" 883), (.int 319 0), (.int 2 0), (.int 0 0), (.int 3 0), (.int 3 0), (.ref 503), (.bool true), (.int 181 0), (.ref 504), .none, .none, .none, (.ref 505), (.int 884 0), (.int 319 0), (.str "/claim/cut.py" 885)]), #[]⟩
def o507_0 (P : Params) : Obj := ⟨(.type "function"), none, (.func (zf (mS 33 0) "__init__" "Schema.__init__" 3 [] .none (.ref 502) .none (.str "surenear.records.schema" 791) none (.ref 506) .none 0)), #[]⟩
def o508_0 (P : Params) : Obj := ⟨(.type "tuple"), none, (.seq #[] 0), #[]⟩
def o509_0 (P : Params) : Obj := ⟨.none, none, (.fields #[]), #[]⟩
def o510_0 (P : Params) : Obj := ⟨(.type "tuple"), none, (.seq #[(.str "self" 890)] 0), #[]⟩
def o511_0 (P : Params) : Obj := ⟨(.type "tuple"), none, (.seq #[] 0), #[]⟩
def o512_0 (P : Params) : Obj := ⟨.none, none, (.func (zf (mS 33 1) "least" "Schema.least" 0 [] .none .none .none .none none .none .none 0)), #[]⟩
def o513_0 (P : Params) : Obj := ⟨(.type "code"), none, (.fields #[(.str "least" 887), (.str "Schema.least" 888), (.str "/claim/cut.py" 889), (.int 334 0), (.int 1 0), (.int 0 0), (.int 0 0), (.int 3 0), (.ref 508), (.bool true), (.int 181 0), (.ref 509), .none, (.ref 510), (.ref 511), (.ref 512), (.int 891 0), (.int 334 0), (.str "/claim/cut.py" 892)]), #[]⟩
def o514_0 (P : Params) : Obj := ⟨(.type "function"), none, (.func (zf (mS 33 1) "least" "Schema.least" 3 [] .none .none .none (.str "surenear.records.schema" 791) none (.ref 513) .none 0)), #[]⟩
def o515_0 (P : Params) : Obj := ⟨(.type "property"), none, (.fields #[(.ref 514), .none, .none, .none, (.str "least" 894), (.bool false)]), #[]⟩
def o516_0 (P : Params) : Obj := ⟨(.type "tuple"), none, (.seq #[] 0), #[]⟩
def o517_0 (P : Params) : Obj := ⟨.none, none, (.fields #[]), #[]⟩
def o518_0 (P : Params) : Obj := ⟨(.type "tuple"), none, (.seq #[(.str "self" 898)] 0), #[]⟩
def o519_0 (P : Params) : Obj := ⟨(.type "tuple"), none, (.seq #[] 0), #[]⟩
def o520_0 (P : Params) : Obj := ⟨.none, none, (.func (zf (mS 33 2) "greatest" "Schema.greatest" 0 [] .none .none .none .none none .none .none 0)), #[]⟩
def o521_0 (P : Params) : Obj := ⟨(.type "code"), none, (.fields #[(.str "greatest" 895), (.str "Schema.greatest" 896), (.str "/claim/cut.py" 897), (.int 338 0), (.int 1 0), (.int 0 0), (.int 0 0), (.int 3 0), (.ref 516), (.bool true), (.int 181 0), (.ref 517), .none, (.ref 518), (.ref 519), (.ref 520), (.int 899 0), (.int 338 0), (.str "/claim/cut.py" 900)]), #[]⟩
def o522_0 (P : Params) : Obj := ⟨(.type "function"), none, (.func (zf (mS 33 2) "greatest" "Schema.greatest" 3 [] .none .none .none (.str "surenear.records.schema" 791) none (.ref 521) .none 0)), #[]⟩
def o523_0 (P : Params) : Obj := ⟨(.type "property"), none, (.fields #[(.ref 522), .none, .none, .none, (.str "greatest" 902), (.bool false)]), #[]⟩
def o524_0 (P : Params) : Obj := ⟨(.type "tuple"), none, (.seq #[] 0), #[]⟩
def o525_0 (P : Params) : Obj := ⟨.none, none, (.fields #[]), #[]⟩
def o526_0 (P : Params) : Obj := ⟨(.type "tuple"), none, (.seq #[(.str "self" 906), (.str "name" 907)] 0), #[]⟩
def o527_0 (P : Params) : Obj := ⟨(.type "tuple"), none, (.seq #[] 0), #[]⟩
def o528_0 (P : Params) : Obj := ⟨.none, none, (.func (zf (mS 33 3) "kind_of" "Schema.kind_of" 0 [] .none .none .none .none none .none .none 0)), #[]⟩
def o529_0 (P : Params) : Obj := ⟨(.type "code"), none, (.fields #[(.str "kind_of" 903), (.str "Schema.kind_of" 904), (.str "/claim/cut.py" 905), (.int 342 0), (.int 2 0), (.int 0 0), (.int 0 0), (.int 3 0), (.ref 524), (.bool true), (.int 181 0), (.ref 525), .none, (.ref 526), (.ref 527), (.ref 528), (.int 908 0), (.int 342 0), (.str "/claim/cut.py" 909)]), #[]⟩
def o530_0 (P : Params) : Obj := ⟨(.type "function"), none, (.func (zf (mS 33 3) "kind_of" "Schema.kind_of" 3 [] .none .none .none (.str "surenear.records.schema" 791) none (.ref 529) .none 0)), #[]⟩
def o531_0 (P : Params) : Obj := ⟨(.type "tuple"), none, (.seq #[] 0), #[]⟩
def o532_0 (P : Params) : Obj := ⟨.none, none, (.fields #[]), #[]⟩
def o533_0 (P : Params) : Obj := ⟨(.type "tuple"), none, (.seq #[(.str "self" 914), (.str "a" 915), (.str "b" 916)] 0), #[]⟩
def o534_0 (P : Params) : Obj := ⟨(.type "tuple"), none, (.seq #[] 0), #[]⟩
def o535_0 (P : Params) : Obj := ⟨.none, none, (.func (zf (mS 33 4) "far" "Schema.far" 0 [] .none .none .none .none none .none .none 0)), #[]⟩
def o536_0 (P : Params) : Obj := ⟨(.type "code"), none, (.fields #[(.str "far" 911), (.str "Schema.far" 912), (.str "/claim/cut.py" 913), (.int 345 0), (.int 3 0), (.int 0 0), (.int 0 0), (.int 3 0), (.ref 531), (.bool true), (.int 181 0), (.ref 532), .none, (.ref 533), (.ref 534), (.ref 535), (.int 917 0), (.int 345 0), (.str "/claim/cut.py" 918)]), #[]⟩
def o537_0 (P : Params) : Obj := ⟨(.type "function"), none, (.func (zf (mS 33 4) "far" "Schema.far" 3 [] .none .none .none (.str "surenear.records.schema" 791) none (.ref 536) .none 0)), #[]⟩
def o538_0 (P : Params) : Obj := ⟨(.type "tuple"), none, (.seq #[] 0), #[]⟩
def o539_0 (P : Params) : Obj := ⟨.none, none, (.fields #[]), #[]⟩
def o540_0 (P : Params) : Obj := ⟨(.type "tuple"), none, (.seq #[(.str "self" 923), (.str "vector" 924), (.str "number" 925)] 0), #[]⟩
def o541_0 (P : Params) : Obj := ⟨(.type "tuple"), none, (.seq #[] 0), #[]⟩
def o542_0 (P : Params) : Obj := ⟨.none, none, (.func (zf (mS 33 5) "has_vector" "Schema.has_vector" 0 [] .none .none .none .none none .none .none 0)), #[]⟩
def o543_0 (P : Params) : Obj := ⟨(.type "code"), none, (.fields #[(.str "has_vector" 920), (.str "Schema.has_vector" 921), (.str "/claim/cut.py" 922), (.int 348 0), (.int 2 0), (.int 0 0), (.int 0 0), (.int 3 0), (.ref 538), (.bool true), (.int 181 0), (.ref 539), .none, (.ref 540), (.ref 541), (.ref 542), (.int 926 0), (.int 348 0), (.str "/claim/cut.py" 927)]), #[]⟩
def o544_0 (P : Params) : Obj := ⟨(.type "function"), none, (.func (zf (mS 33 5) "has_vector" "Schema.has_vector" 3 [] .none .none .none (.str "surenear.records.schema" 791) none (.ref 543) .none 0)), #[]⟩
def o545_0 (P : Params) : Obj := ⟨(.type "tuple"), none, (.seq #[] 0), #[]⟩
def o546_0 (P : Params) : Obj := ⟨.none, none, (.fields #[]), #[]⟩
def o547_0 (P : Params) : Obj := ⟨(.type "tuple"), none, (.seq #[(.str "self" 932), (.str "pairs" 933), (.str "at" 934), (.str "name" 935), (.str "worth" 936)] 0), #[]⟩
def o548_0 (P : Params) : Obj := ⟨(.type "tuple"), none, (.seq #[] 0), #[]⟩
def o549_0 (P : Params) : Obj := ⟨.none, none, (.func (zf (mS 33 6) "has_fields" "Schema.has_fields" 0 [] .none .none .none .none none .none .none 0)), #[]⟩
def o550_0 (P : Params) : Obj := ⟨(.type "code"), none, (.fields #[(.str "has_fields" 929), (.str "Schema.has_fields" 930), (.str "/claim/cut.py" 931), (.int 356 0), (.int 2 0), (.int 0 0), (.int 0 0), (.int 3 0), (.ref 545), (.bool true), (.int 181 0), (.ref 546), .none, (.ref 547), (.ref 548), (.ref 549), (.int 937 0), (.int 356 0), (.str "/claim/cut.py" 938)]), #[]⟩
def o551_0 (P : Params) : Obj := ⟨(.type "function"), none, (.func (zf (mS 33 6) "has_fields" "Schema.has_fields" 3 [] .none .none .none (.str "surenear.records.schema" 791) none (.ref 550) .none 0)), #[]⟩
def o552_0 (P : Params) : Obj := ⟨(.type "tuple"), none, (.seq #[] 0), #[]⟩
def o553_0 (P : Params) : Obj := ⟨.none, none, (.fields #[]), #[]⟩
def o554_0 (P : Params) : Obj := ⟨(.type "tuple"), none, (.seq #[(.str "self" 943), (.str "record" 944)] 0), #[]⟩
def o555_0 (P : Params) : Obj := ⟨(.type "tuple"), none, (.seq #[] 0), #[]⟩
def o556_0 (P : Params) : Obj := ⟨.none, none, (.func (zf (mS 33 7) "__contains__" "Schema.__contains__" 0 [] .none .none .none .none none .none .none 0)), #[]⟩
def o557_0 (P : Params) : Obj := ⟨(.type "code"), none, (.fields #[(.str "__contains__" 940), (.str "Schema.__contains__" 941), (.str "/claim/cut.py" 942), (.int 366 0), (.int 2 0), (.int 0 0), (.int 0 0), (.int 3 0), (.ref 552), (.bool true), (.int 181 0), (.ref 553), .none, (.ref 554), (.ref 555), (.ref 556), (.int 945 0), (.int 366 0), (.str "/claim/cut.py" 946)]), #[]⟩
def o558_0 (P : Params) : Obj := ⟨(.type "function"), none, (.func (zf (mS 33 7) "__contains__" "Schema.__contains__" 3 [] .none .none .none (.str "surenear.records.schema" 791) none (.ref 557) .none 0)), #[]⟩
def o559_0 (P : Params) : Obj := ⟨(.type "tuple"), none, (.seq #[] 0), #[]⟩
def o560_0 (P : Params) : Obj := ⟨.none, none, (.fields #[]), #[]⟩
def o561_0 (P : Params) : Obj := ⟨(.type "tuple"), none, (.seq #[(.str "self" 951), (.str "record" 952)] 0), #[]⟩
def o562_0 (P : Params) : Obj := ⟨(.type "tuple"), none, (.seq #[] 0), #[]⟩
def o563_0 (P : Params) : Obj := ⟨.none, none, (.func (zf (mS 33 8) "check" "Schema.check" 0 [] .none .none .none .none none .none .none 0)), #[]⟩
def o564_0 (P : Params) : Obj := ⟨(.type "code"), none, (.fields #[(.str "check" 948), (.str "Schema.check" 949), (.str "/claim/cut.py" 950), (.int 371 0), (.int 2 0), (.int 0 0), (.int 0 0), (.int 3 0), (.ref 559), (.bool true), (.int 181 0), (.ref 560), .none, (.ref 561), (.ref 562), (.ref 563), (.int 953 0), (.int 371 0), (.str "/claim/cut.py" 954)]), #[]⟩
def o565_0 (P : Params) : Obj := ⟨(.type "function"), none, (.func (zf (mS 33 8) "check" "Schema.check" 3 [] .none .none .none (.str "surenear.records.schema" 791) none (.ref 564) .none 0)), #[]⟩
def o566_0 (P : Params) : Obj := ⟨(.type "tuple"), none, (.seq #[] 0), #[]⟩
def o567_0 (P : Params) : Obj := ⟨.none, none, (.fields #[]), #[]⟩
def o568_0 (P : Params) : Obj := ⟨(.type "tuple"), none, (.seq #[(.str "self" 959), (.str "other" 960)] 0), #[]⟩
def o569_0 (P : Params) : Obj := ⟨(.type "tuple"), none, (.seq #[] 0), #[]⟩
def o570_0 (P : Params) : Obj := ⟨.none, none, (.func (zf (mS 33 9) "__eq__" "Schema.__eq__" 0 [] .none .none .none .none none .none .none 0)), #[]⟩
def o571_0 (P : Params) : Obj := ⟨(.type "code"), none, (.fields #[(.str "__eq__" 956), (.str "Schema.__eq__" 957), (.str "/claim/cut.py" 958), (.int 375 0), (.int 2 0), (.int 0 0), (.int 0 0), (.int 3 0), (.ref 566), (.bool true), (.int 181 0), (.ref 567), .none, (.ref 568), (.ref 569), (.ref 570), (.int 961 0), (.int 375 0), (.str "/claim/cut.py" 962)]), #[]⟩
def o572_0 (P : Params) : Obj := ⟨(.type "function"), none, (.func (zf (mS 33 9) "__eq__" "Schema.__eq__" 3 [] .none .none .none (.str "surenear.records.schema" 791) none (.ref 571) .none 0)), #[]⟩
def o573_0 (P : Params) : Obj := ⟨(.type "tuple"), none, (.seq #[(.str "fields" 964), (.str "measure" 965), (.str "size" 966), (.str "width" 967)] 0), #[]⟩
def o574_0 (P : Params) : Obj := ⟨(.type "dict"), none, (.dict #[zd P "__module__" 871 (.str "surenear.records.schema" 791), zd P "__firstlineno__" 875 (.int 317 874), zd P "__init__" 886 (.ref 507), zd P "least" 894 (.ref 515), zd P "greatest" 902 (.ref 523), zd P "kind_of" 910 (.ref 530), zd P "far" 919 (.ref 537), zd P "has_vector" 928 (.ref 544), zd P "has_fields" 939 (.ref 551), zd P "__contains__" 947 (.ref 558), zd P "check" 955 (.ref 565), zd P "__eq__" 963 (.ref 572), zd P "__static_attributes__" 968 (.ref 573), zd P "__dict__" 970 (.ref 576), zd P "__weakref__" 972 (.ref 577), zd P "__doc__" 973 .none, zd P "__hash__" 974 .none] 5), #[]⟩
def o575_0 (P : Params) : Obj := ⟨(.type "type"), none, (.cls ⟨"Schema", [(.type "object")], [(.ref 575), (.type "object")], 574, "Schema", true, [], [], false, none, false⟩), #[none, none, (some (.str "Schema" 864)), (some (.str "Schema" 872)), (some (.builtin "object.__new__")), (some (.bool true))]⟩
def o576_0 (P : Params) : Obj := ⟨(.type "getset_descriptor"), none, (.fields #[(.str "__dict__" 969), (.ref 575), (.builtin "function.__dict__"), (.builtin "function.__dict__#set")]), #[]⟩
def o577_0 (P : Params) : Obj := ⟨(.type "getset_descriptor"), none, (.fields #[(.str "__weakref__" 971), (.ref 575), (.builtin "ExceptionGroup.__weakref__"), .none]), #[]⟩
def o578_0 (P : Params) : Obj := ⟨(.type "super"), none, (.fields #[(.ref 575), (.ref 575), (.ref 575)]), #[]⟩
def o579_0 (P : Params) : Obj := ⟨(.type "builtin_function_or_method"), none, (.fields #[(.builtin "object.__init_subclass__"), (.ref 575)]), #[]⟩
def o580_0 (P : Params) : Obj := ⟨(.type "tuple"), none, (.seq #[] 0), #[]⟩
def o581_0 (P : Params) : Obj := ⟨.none, none, (.fields #[]), #[]⟩
def o582_0 (P : Params) : Obj := ⟨(.type "tuple"), none, (.seq #[(.str "_law_script" 982), (.str "_law_k" 983), (.str "_law_cell" 984), (.str "_law_a" 985), (.str "_law_b" 986), (.str "_law_c" 987)] 0), #[]⟩
def o583_0 (P : Params) : Obj := ⟨(.type "tuple"), none, (.seq #[] 0), #[]⟩
def o584_0 (P : Params) : Obj := ⟨.none, none, (.func (zf (tS 35) "_law_row" "_law_row" 0 [] .none .none .none .none none .none .none 0)), #[]⟩
def o585_0 (P : Params) : Obj := ⟨(.type "code"), none, (.fields #[(.str "_law_row" 979), (.str "_law_row" 980), (.str "/claim/cut.py" 981), (.int 382 0), (.int 2 0), (.int 0 0), (.int 0 0), (.int 3 0), (.ref 580), (.bool true), (.int 181 0), (.ref 581), .none, (.ref 582), (.ref 583), (.ref 584), (.int 988 0), (.int 382 0), (.str "/claim/cut.py" 989)]), #[]⟩
def o586_0 (P : Params) : Obj := ⟨(.type "function"), none, (.func (zf (tS 35) "_law_row" "_law_row" 3 [] .none .none .none (.str "law_surenear_k70_names_belong_to_shards" 977) none (.ref 585) .none 0)), #[]⟩
def o587_0 (P : Params) : Obj := ⟨(.type "tuple"), none, (.seq #[] 0), #[]⟩
def o588_0 (P : Params) : Obj := ⟨.none, none, (.fields #[]), #[]⟩
def o589_0 (P : Params) : Obj := ⟨(.type "tuple"), none, (.seq #[(.str "_law_state" 994), (.str "_law_many" 995), (.str "_law_drawn" 996)] 0), #[]⟩
def o590_0 (P : Params) : Obj := ⟨(.type "tuple"), none, (.seq #[] 0), #[]⟩
def o591_0 (P : Params) : Obj := ⟨.none, none, (.func (zf (tS 36) "_law_next" "_law_next" 0 [] .none .none .none .none none .none .none 0)), #[]⟩
def o592_0 (P : Params) : Obj := ⟨(.type "code"), none, (.fields #[(.str "_law_next" 991), (.str "_law_next" 992), (.str "/claim/cut.py" 993), (.int 394 0), (.int 2 0), (.int 0 0), (.int 0 0), (.int 3 0), (.ref 587), (.bool true), (.int 181 0), (.ref 588), .none, (.ref 589), (.ref 590), (.ref 591), (.int 997 0), (.int 394 0), (.str "/claim/cut.py" 998)]), #[]⟩
def o593_0 (P : Params) : Obj := ⟨(.type "function"), none, (.func (zf (tS 36) "_law_next" "_law_next" 3 [] .none .none .none (.str "law_surenear_k70_names_belong_to_shards" 977) none (.ref 592) .none 0)), #[]⟩
def o594_0 (P : Params) : Obj := ⟨(.type "tuple"), none, (.seq #[] 0), #[]⟩
def o595_0 (P : Params) : Obj := ⟨.none, none, (.fields #[]), #[]⟩
def o596_0 (P : Params) : Obj := ⟨(.type "tuple"), none, (.seq #[(.str "_law_state" 1003), (.str "_law_word_here" 1004), (.str "_law_turn" 1005)] 0), #[]⟩
def o597_0 (P : Params) : Obj := ⟨(.type "tuple"), none, (.seq #[] 0), #[]⟩
def o598_0 (P : Params) : Obj := ⟨.none, none, (.func (zf (tS 37) "_law_word" "_law_word" 0 [] .none .none .none .none none .none .none 0)), #[]⟩
def o599_0 (P : Params) : Obj := ⟨(.type "code"), none, (.fields #[(.str "_law_word" 1000), (.str "_law_word" 1001), (.str "/claim/cut.py" 1002), (.int 401 0), (.int 1 0), (.int 0 0), (.int 0 0), (.int 3 0), (.ref 594), (.bool true), (.int 181 0), (.ref 595), .none, (.ref 596), (.ref 597), (.ref 598), (.int 1006 0), (.int 401 0), (.str "/claim/cut.py" 1007)]), #[]⟩
def o600_0 (P : Params) : Obj := ⟨(.type "function"), none, (.func (zf (tS 37) "_law_word" "_law_word" 3 [] .none .none .none (.str "law_surenear_k70_names_belong_to_shards" 977) none (.ref 599) .none 0)), #[]⟩
def o601_0 (P : Params) : Obj := ⟨(.type "tuple"), none, (.seq #[] 0), #[]⟩
def o602_0 (P : Params) : Obj := ⟨.none, none, (.fields #[]), #[]⟩
def o603_0 (P : Params) : Obj := ⟨(.type "tuple"), none, (.seq #[(.str "_law_routes" 1012), (.str "_law_name" 1013), (.str "_law_best" 1014), (.str "_law_low" 1015), (.str "_law_shard" 1016)] 0), #[]⟩
def o604_0 (P : Params) : Obj := ⟨(.type "tuple"), none, (.seq #[] 0), #[]⟩
def o605_0 (P : Params) : Obj := ⟨.none, none, (.func (zf (tS 38) "_law_due" "_law_due" 0 [] .none .none .none .none none .none .none 0)), #[]⟩
def o606_0 (P : Params) : Obj := ⟨(.type "code"), none, (.fields #[(.str "_law_due" 1009), (.str "_law_due" 1010), (.str "/claim/cut.py" 1011), (.int 406 0), (.int 2 0), (.int 0 0), (.int 0 0), (.int 3 0), (.ref 601), (.bool true), (.int 181 0), (.ref 602), .none, (.ref 603), (.ref 604), (.ref 605), (.int 1017 0), (.int 406 0), (.str "/claim/cut.py" 1018)]), #[]⟩
def o607_0 (P : Params) : Obj := ⟨(.type "function"), none, (.func (zf (tS 38) "_law_due" "_law_due" 3 [] .none .none .none (.str "law_surenear_k70_names_belong_to_shards" 977) none (.ref 606) .none 0)), #[]⟩
def o608_0 (P : Params) : Obj := ⟨(.type "tuple"), none, (.seq #[] 0), #[]⟩
def o609_0 (P : Params) : Obj := ⟨.none, none, (.fields #[]), #[]⟩
def o610_0 (P : Params) : Obj := ⟨.none, none, (.func (zf (tS 39) "law" "law" 0 [] .none .none .none .none none .none .none 0)), #[]⟩
def o611_0 (P : Params) : Obj := ⟨(.type "code"), none, (.fields #[(.str "law" 1020), (.str "law" 1021), (.str "/claim/cut.py" 1022), (.int 412 0), (.int 1 0), (.int 0 0), (.int 0 0), (.int 3 0), (.ref 608), (.bool true), (.int 181 0), (.ref 609), .none, .none, .none, (.ref 610), (.int 1023 0), (.int 412 0), (.str "/claim/cut.py" 1024)]), #[]⟩
def o612_0 (P : Params) : Obj := ⟨(.type "function"), none, (.func (zf (tS 39) "law" "law" 3 [] .none .none .none (.str "law_surenear_k70_names_belong_to_shards" 977) none (.ref 611) .none 0)), #[]⟩
def t4 (P : Params) : BT := (nd (PySem.W.boot_o_0 P) (nd (PySem.W.boot_o_1 P) (nd (o3_3 P) (nd (PySem.W.boot_o_7 P) (nd (o15_0 P) (nd (o31_0 P) (nd (o63_0 P) (nd (o127_0 P) (nd (o255_0 P) (nd (o511_0 P) lf lf) lf) (nd (o383_0 P) lf lf)) (nd (o191_0 P) (nd (o319_0 P) (nd (o575_0 P) lf lf) lf) (nd (o447_0 P) lf lf))) (nd (o95_0 P) (nd (o159_0 P) (nd (o287_0 P) (nd (o543_0 P) lf lf) lf) (nd (o415_0 P) lf lf)) (nd (o223_0 P) (nd (o351_0 P) (nd (o607_0 P) lf lf) lf) (nd (o479_0 P) lf lf)))) (nd (o47_0 P) (nd (o79_0 P) (nd (o143_0 P) (nd (o271_0 P) (nd (o527_0 P) lf lf) lf) (nd (o399_0 P) lf lf)) (nd (o207_0 P) (nd (o335_0 P) (nd (o591_0 P) lf lf) lf) (nd (o463_0 P) lf lf))) (nd (o111_0 P) (nd (o175_0 P) (nd (o303_0 P) (nd (o559_0 P) lf lf) lf) (nd (o431_0 P) lf lf)) (nd (o239_0 P) (nd (o367_0 P) lf lf) (nd (o495_0 P) lf lf))))) (nd (o23_0 P) (nd (o39_0 P) (nd (o71_0 P) (nd (o135_0 P) (nd (o263_0 P) (nd (o519_0 P) lf lf) lf) (nd (o391_0 P) lf lf)) (nd (o199_0 P) (nd (o327_0 P) (nd (o583_0 P) lf lf) lf) (nd (o455_0 P) lf lf))) (nd (o103_0 P) (nd (o167_0 P) (nd (o295_0 P) (nd (o551_0 P) lf lf) lf) (nd (o423_0 P) lf lf)) (nd (o231_0 P) (nd (o359_0 P) lf lf) (nd (o487_0 P) lf lf)))) (nd (o55_0 P) (nd (o87_0 P) (nd (o151_0 P) (nd (o279_0 P) (nd (o535_0 P) lf lf) lf) (nd (o407_0 P) lf lf)) (nd (o215_0 P) (nd (o343_0 P) (nd (o599_0 P) lf lf) lf) (nd (o471_0 P) lf lf))) (nd (o119_0 P) (nd (o183_0 P) (nd (o311_0 P) (nd (o567_0 P) lf lf) lf) (nd (o439_0 P) lf lf)) (nd (o247_0 P) (nd (o375_0 P) lf lf) (nd (o503_0 P) lf lf)))))) (nd (o11_0 P) (nd (o19_0 P) (nd (o35_0 P) (nd (o67_0 P) (nd (o131_0 P) (nd (o259_0 P) (nd (o515_0 P) lf lf) lf) (nd (o387_0 P) lf lf)) (nd (o195_0 P) (nd (o323_0 P) (nd (o579_0 P) lf lf) lf) (nd (o451_0 P) lf lf))) (nd (o99_0 P) (nd (o163_0 P) (nd (o291_0 P) (nd (o547_0 P) lf lf) lf) (nd (o419_0 P) lf lf)) (nd (o227_0 P) (nd (o355_0 P) (nd (o611_0 P) lf lf) lf) (nd (o483_0 P) lf lf)))) (nd (o51_0 P) (nd (o83_0 P) (nd (o147_0 P) (nd (o275_0 P) (nd (o531_0 P) lf lf) lf) (nd (o403_0 P) lf lf)) (nd (o211_0 P) (nd (o339_0 P) (nd (o595_0 P) lf lf) lf) (nd (o467_0 P) lf lf))) (nd (o115_0 P) (nd (o179_0 P) (nd (o307_0 P) (nd (o563_0 P) lf lf) lf) (nd (o435_0 P) lf lf)) (nd (o243_0 P) (nd (o371_0 P) lf lf) (nd (o499_0 P) lf lf))))) (nd (o27_0 P) (nd (o43_0 P) (nd (o75_0 P) (nd (o139_0 P) (nd (o267_0 P) (nd (o523_0 P) lf lf) lf) (nd (o395_0 P) lf lf)) (nd (o203_0 P) (nd (o331_0 P) (nd (o587_0 P) lf lf) lf) (nd (o459_0 P) lf lf))) (nd (o107_0 P) (nd (o171_0 P) (nd (o299_0 P) (nd (o555_0 P) lf lf) lf) (nd (o427_0 P) lf lf)) (nd (o235_0 P) (nd (o363_0 P) lf lf) (nd (o491_0 P) lf lf)))) (nd (o59_0 P) (nd (o91_0 P) (nd (o155_0 P) (nd (o283_0 P) (nd (o539_0 P) lf lf) lf) (nd (o411_0 P) lf lf)) (nd (o219_0 P) (nd (o347_0 P) (nd (o603_0 P) lf lf) lf) (nd (o475_0 P) lf lf))) (nd (o123_0 P) (nd (o187_0 P) (nd (o315_0 P) (nd (o571_0 P) lf lf) lf) (nd (o443_0 P) lf lf)) (nd (o251_0 P) (nd (o379_0 P) lf lf) (nd (o507_0 P) lf lf))))))) (nd (PySem.W.boot_o_5 P) (nd (PySem.W.boot_o_9 P) (nd (o17_0 P) (nd (o33_0 P) (nd (o65_0 P) (nd (o129_0 P) (nd (o257_0 P) (nd (o513_0 P) lf lf) lf) (nd (o385_0 P) lf lf)) (nd (o193_0 P) (nd (o321_0 P) (nd (o577_0 P) lf lf) lf) (nd (o449_0 P) lf lf))) (nd (o97_0 P) (nd (o161_0 P) (nd (o289_0 P) (nd (o545_0 P) lf lf) lf) (nd (o417_0 P) lf lf)) (nd (o225_0 P) (nd (o353_0 P) (nd (o609_0 P) lf lf) lf) (nd (o481_0 P) lf lf)))) (nd (o49_0 P) (nd (o81_0 P) (nd (o145_0 P) (nd (o273_0 P) (nd (o529_0 P) lf lf) lf) (nd (o401_0 P) lf lf)) (nd (o209_0 P) (nd (o337_0 P) (nd (o593_0 P) lf lf) lf) (nd (o465_0 P) lf lf))) (nd (o113_0 P) (nd (o177_0 P) (nd (o305_0 P) (nd (o561_0 P) lf lf) lf) (nd (o433_0 P) lf lf)) (nd (o241_0 P) (nd (o369_0 P) lf lf) (nd (o497_0 P) lf lf))))) (nd (o25_0 P) (nd (o41_0 P) (nd (o73_0 P) (nd (o137_0 P) (nd (o265_0 P) (nd (o521_0 P) lf lf) lf) (nd (o393_0 P) lf lf)) (nd (o201_0 P) (nd (o329_0 P) (nd (o585_0 P) lf lf) lf) (nd (o457_0 P) lf lf))) (nd (o105_0 P) (nd (o169_0 P) (nd (o297_0 P) (nd (o553_0 P) lf lf) lf) (nd (o425_0 P) lf lf)) (nd (o233_0 P) (nd (o361_0 P) lf lf) (nd (o489_0 P) lf lf)))) (nd (o57_0 P) (nd (o89_0 P) (nd (o153_0 P) (nd (o281_0 P) (nd (o537_0 P) lf lf) lf) (nd (o409_0 P) lf lf)) (nd (o217_0 P) (nd (o345_0 P) (nd (o601_0 P) lf lf) lf) (nd (o473_0 P) lf lf))) (nd (o121_0 P) (nd (o185_0 P) (nd (o313_0 P) (nd (o569_0 P) lf lf) lf) (nd (o441_0 P) lf lf)) (nd (o249_0 P) (nd (o377_0 P) lf lf) (nd (o505_0 P) lf lf)))))) (nd (o13_0 P) (nd (o21_0 P) (nd (o37_0 P) (nd (o69_0 P) (nd (o133_0 P) (nd (o261_0 P) (nd (o517_0 P) lf lf) lf) (nd (o389_0 P) lf lf)) (nd (o197_0 P) (nd (o325_0 P) (nd (o581_0 P) lf lf) lf) (nd (o453_0 P) lf lf))) (nd (o101_0 P) (nd (o165_0 P) (nd (o293_0 P) (nd (o549_0 P) lf lf) lf) (nd (o421_0 P) lf lf)) (nd (o229_0 P) (nd (o357_0 P) lf lf) (nd (o485_0 P) lf lf)))) (nd (o53_0 P) (nd (o85_0 P) (nd (o149_0 P) (nd (o277_0 P) (nd (o533_0 P) lf lf) lf) (nd (o405_0 P) lf lf)) (nd (o213_0 P) (nd (o341_0 P) (nd (o597_0 P) lf lf) lf) (nd (o469_0 P) lf lf))) (nd (o117_0 P) (nd (o181_0 P) (nd (o309_0 P) (nd (o565_0 P) lf lf) lf) (nd (o437_0 P) lf lf)) (nd (o245_0 P) (nd (o373_0 P) lf lf) (nd (o501_0 P) lf lf))))) (nd (o29_0 P) (nd (o45_0 P) (nd (o77_0 P) (nd (o141_0 P) (nd (o269_0 P) (nd (o525_0 P) lf lf) lf) (nd (o397_0 P) lf lf)) (nd (o205_0 P) (nd (o333_0 P) (nd (o589_0 P) lf lf) lf) (nd (o461_0 P) lf lf))) (nd (o109_0 P) (nd (o173_0 P) (nd (o301_0 P) (nd (o557_0 P) lf lf) lf) (nd (o429_0 P) lf lf)) (nd (o237_0 P) (nd (o365_0 P) lf lf) (nd (o493_0 P) lf lf)))) (nd (o61_0 P) (nd (o93_0 P) (nd (o157_0 P) (nd (o285_0 P) (nd (o541_0 P) lf lf) lf) (nd (o413_0 P) lf lf)) (nd (o221_0 P) (nd (o349_0 P) (nd (o605_0 P) lf lf) lf) (nd (o477_0 P) lf lf))) (nd (o125_0 P) (nd (o189_0 P) (nd (o317_0 P) (nd (o573_0 P) lf lf) lf) (nd (o445_0 P) lf lf)) (nd (o253_0 P) (nd (o381_0 P) lf lf) (nd (o509_0 P) lf lf)))))))) (nd (PySem.W.boot_o_2 P) (nd (PySem.W.boot_o_4 P) (nd (PySem.W.boot_o_8 P) (nd (o16_0 P) (nd (o32_0 P) (nd (o64_0 P) (nd (o128_0 P) (nd (o256_0 P) (nd (o512_0 P) lf lf) lf) (nd (o384_0 P) lf lf)) (nd (o192_0 P) (nd (o320_0 P) (nd (o576_0 P) lf lf) lf) (nd (o448_0 P) lf lf))) (nd (o96_0 P) (nd (o160_0 P) (nd (o288_0 P) (nd (o544_0 P) lf lf) lf) (nd (o416_0 P) lf lf)) (nd (o224_0 P) (nd (o352_0 P) (nd (o608_0 P) lf lf) lf) (nd (o480_0 P) lf lf)))) (nd (o48_0 P) (nd (o80_0 P) (nd (o144_0 P) (nd (o272_0 P) (nd (o528_0 P) lf lf) lf) (nd (o400_0 P) lf lf)) (nd (o208_0 P) (nd (o336_0 P) (nd (o592_0 P) lf lf) lf) (nd (o464_0 P) lf lf))) (nd (o112_0 P) (nd (o176_0 P) (nd (o304_0 P) (nd (o560_0 P) lf lf) lf) (nd (o432_0 P) lf lf)) (nd (o240_0 P) (nd (o368_0 P) lf lf) (nd (o496_0 P) lf lf))))) (nd (o24_0 P) (nd (o40_0 P) (nd (o72_0 P) (nd (o136_0 P) (nd (o264_0 P) (nd (o520_0 P) lf lf) lf) (nd (o392_0 P) lf lf)) (nd (o200_0 P) (nd (o328_0 P) (nd (o584_0 P) lf lf) lf) (nd (o456_0 P) lf lf))) (nd (o104_0 P) (nd (o168_0 P) (nd (o296_0 P) (nd (o552_0 P) lf lf) lf) (nd (o424_0 P) lf lf)) (nd (o232_0 P) (nd (o360_0 P) lf lf) (nd (o488_0 P) lf lf)))) (nd (o56_0 P) (nd (o88_0 P) (nd (o152_0 P) (nd (o280_0 P) (nd (o536_0 P) lf lf) lf) (nd (o408_0 P) lf lf)) (nd (o216_0 P) (nd (o344_0 P) (nd (o600_0 P) lf lf) lf) (nd (o472_0 P) lf lf))) (nd (o120_0 P) (nd (o184_0 P) (nd (o312_0 P) (nd (o568_0 P) lf lf) lf) (nd (o440_0 P) lf lf)) (nd (o248_0 P) (nd (o376_0 P) lf lf) (nd (o504_0 P) lf lf)))))) (nd (o12_3 P) (nd (o20_0 P) (nd (o36_0 P) (nd (o68_0 P) (nd (o132_0 P) (nd (o260_0 P) (nd (o516_0 P) lf lf) lf) (nd (o388_0 P) lf lf)) (nd (o196_0 P) (nd (o324_0 P) (nd (o580_0 P) lf lf) lf) (nd (o452_0 P) lf lf))) (nd (o100_0 P) (nd (o164_0 P) (nd (o292_0 P) (nd (o548_0 P) lf lf) lf) (nd (o420_0 P) lf lf)) (nd (o228_0 P) (nd (o356_0 P) (nd (o612_0 P) lf lf) lf) (nd (o484_0 P) lf lf)))) (nd (o52_0 P) (nd (o84_0 P) (nd (o148_0 P) (nd (o276_0 P) (nd (o532_0 P) lf lf) lf) (nd (o404_0 P) lf lf)) (nd (o212_0 P) (nd (o340_0 P) (nd (o596_0 P) lf lf) lf) (nd (o468_0 P) lf lf))) (nd (o116_0 P) (nd (o180_0 P) (nd (o308_0 P) (nd (o564_0 P) lf lf) lf) (nd (o436_0 P) lf lf)) (nd (o244_0 P) (nd (o372_0 P) lf lf) (nd (o500_0 P) lf lf))))) (nd (o28_0 P) (nd (o44_0 P) (nd (o76_0 P) (nd (o140_0 P) (nd (o268_0 P) (nd (o524_0 P) lf lf) lf) (nd (o396_0 P) lf lf)) (nd (o204_0 P) (nd (o332_0 P) (nd (o588_0 P) lf lf) lf) (nd (o460_0 P) lf lf))) (nd (o108_0 P) (nd (o172_0 P) (nd (o300_0 P) (nd (o556_0 P) lf lf) lf) (nd (o428_0 P) lf lf)) (nd (o236_0 P) (nd (o364_0 P) lf lf) (nd (o492_0 P) lf lf)))) (nd (o60_0 P) (nd (o92_0 P) (nd (o156_0 P) (nd (o284_0 P) (nd (o540_0 P) lf lf) lf) (nd (o412_0 P) lf lf)) (nd (o220_0 P) (nd (o348_0 P) (nd (o604_0 P) lf lf) lf) (nd (o476_0 P) lf lf))) (nd (o124_0 P) (nd (o188_0 P) (nd (o316_0 P) (nd (o572_0 P) lf lf) lf) (nd (o444_0 P) lf lf)) (nd (o252_0 P) (nd (o380_0 P) lf lf) (nd (o508_0 P) lf lf))))))) (nd (PySem.W.boot_o_6 P) (nd (PySem.W.boot_o_10 P) (nd (o18_0 P) (nd (o34_0 P) (nd (o66_0 P) (nd (o130_0 P) (nd (o258_0 P) (nd (o514_0 P) lf lf) lf) (nd (o386_0 P) lf lf)) (nd (o194_0 P) (nd (o322_0 P) (nd (o578_0 P) lf lf) lf) (nd (o450_0 P) lf lf))) (nd (o98_0 P) (nd (o162_0 P) (nd (o290_0 P) (nd (o546_0 P) lf lf) lf) (nd (o418_0 P) lf lf)) (nd (o226_0 P) (nd (o354_0 P) (nd (o610_0 P) lf lf) lf) (nd (o482_0 P) lf lf)))) (nd (o50_0 P) (nd (o82_0 P) (nd (o146_0 P) (nd (o274_0 P) (nd (o530_0 P) lf lf) lf) (nd (o402_0 P) lf lf)) (nd (o210_0 P) (nd (o338_0 P) (nd (o594_0 P) lf lf) lf) (nd (o466_0 P) lf lf))) (nd (o114_0 P) (nd (o178_0 P) (nd (o306_0 P) (nd (o562_0 P) lf lf) lf) (nd (o434_0 P) lf lf)) (nd (o242_0 P) (nd (o370_0 P) lf lf) (nd (o498_0 P) lf lf))))) (nd (o26_0 P) (nd (o42_0 P) (nd (o74_0 P) (nd (o138_0 P) (nd (o266_0 P) (nd (o522_0 P) lf lf) lf) (nd (o394_0 P) lf lf)) (nd (o202_0 P) (nd (o330_0 P) (nd (o586_0 P) lf lf) lf) (nd (o458_0 P) lf lf))) (nd (o106_0 P) (nd (o170_0 P) (nd (o298_0 P) (nd (o554_0 P) lf lf) lf) (nd (o426_0 P) lf lf)) (nd (o234_0 P) (nd (o362_0 P) lf lf) (nd (o490_0 P) lf lf)))) (nd (o58_0 P) (nd (o90_0 P) (nd (o154_0 P) (nd (o282_0 P) (nd (o538_0 P) lf lf) lf) (nd (o410_0 P) lf lf)) (nd (o218_0 P) (nd (o346_0 P) (nd (o602_0 P) lf lf) lf) (nd (o474_0 P) lf lf))) (nd (o122_0 P) (nd (o186_0 P) (nd (o314_0 P) (nd (o570_0 P) lf lf) lf) (nd (o442_0 P) lf lf)) (nd (o250_0 P) (nd (o378_0 P) lf lf) (nd (o506_0 P) lf lf)))))) (nd (o14_0 P) (nd (o22_0 P) (nd (o38_0 P) (nd (o70_0 P) (nd (o134_0 P) (nd (o262_0 P) (nd (o518_0 P) lf lf) lf) (nd (o390_0 P) lf lf)) (nd (o198_0 P) (nd (o326_0 P) (nd (o582_0 P) lf lf) lf) (nd (o454_0 P) lf lf))) (nd (o102_0 P) (nd (o166_0 P) (nd (o294_0 P) (nd (o550_0 P) lf lf) lf) (nd (o422_0 P) lf lf)) (nd (o230_0 P) (nd (o358_0 P) lf lf) (nd (o486_0 P) lf lf)))) (nd (o54_0 P) (nd (o86_0 P) (nd (o150_0 P) (nd (o278_0 P) (nd (o534_0 P) lf lf) lf) (nd (o406_0 P) lf lf)) (nd (o214_0 P) (nd (o342_0 P) (nd (o598_0 P) lf lf) lf) (nd (o470_0 P) lf lf))) (nd (o118_0 P) (nd (o182_0 P) (nd (o310_0 P) (nd (o566_0 P) lf lf) lf) (nd (o438_0 P) lf lf)) (nd (o246_0 P) (nd (o374_0 P) lf lf) (nd (o502_0 P) lf lf))))) (nd (o30_0 P) (nd (o46_0 P) (nd (o78_0 P) (nd (o142_0 P) (nd (o270_0 P) (nd (o526_0 P) lf lf) lf) (nd (o398_0 P) lf lf)) (nd (o206_0 P) (nd (o334_0 P) (nd (o590_0 P) lf lf) lf) (nd (o462_0 P) lf lf))) (nd (o110_0 P) (nd (o174_0 P) (nd (o302_0 P) (nd (o558_0 P) lf lf) lf) (nd (o430_0 P) lf lf)) (nd (o238_0 P) (nd (o366_0 P) lf lf) (nd (o494_0 P) lf lf)))) (nd (o62_0 P) (nd (o94_0 P) (nd (o158_0 P) (nd (o286_0 P) (nd (o542_0 P) lf lf) lf) (nd (o414_0 P) lf lf)) (nd (o222_0 P) (nd (o350_0 P) (nd (o606_0 P) lf lf) lf) (nd (o478_0 P) lf lf))) (nd (o126_0 P) (nd (o190_0 P) (nd (o318_0 P) (nd (o574_0 P) lf lf) lf) (nd (o446_0 P) lf lf)) (nd (o254_0 P) (nd (o382_0 P) lf lf) (nd (o510_0 P) lf lf)))))))))
def s4 (w : World) (os : OsState) : SharedT := ⟨t4 w.params, 613, { }, #[], ⟨0, 0, 0, 0⟩, 1026, os⟩
abbrev l4 : List Stmt := (bE.drop 25).take 15
theorem seg4 (w : World) (os : OsState) : segRunT treeTable pr w 11 annV 1 1009 (s3 w os) (piecesOf l4 env cE ⟨289, 0, 289, 6⟩ fB) = some (.next, s4 w os, cE, ⟨412, 0, 428, 98⟩) := seg_q (by kernel_rfl)
theorem fin (w : World) (os : OsState) : topRun treeTable pr w 11 annV 2 (s4 w os).abs ⟨doneF .next, cE, ⟨412, 0, 428, 98⟩, fB⟩ = some (s4 w os).abs := by kernel_rfl
theorem parts : bE = l1 ++ (l2 ++ (l3 ++ (l4 ++ []))) := by kernel_rfl
theorem whole (w : World) (os : OsState) : topRun treeTable pr w 11 annV 4531 ⟨boot_heap w.params, #[], boot_drawn, boot_toks, os⟩ (topStub pr) = some (s4 w os).abs := by
  have k := piece_app (segRun_of (seg1 w os)) (piece_app (segRun_of (seg2 w os)) (piece_app (segRun_of (seg3 w os)) (piece_app (segRun_of (seg4 w os)) (piece_nil (fin w os)))))
  rw [← parts] at k
  exact go_top (n := 12) (N := 4519) (pre w os) (piece_block (n := 1) (N := 4518) (blk w os) k)
def hK : Params → PySem.W.Frag := fun P => ((nat_lit 2, PySem.W.boot_o_2 P) :: (nat_lit 3, o3_3 P) :: (nat_lit 15, o15_0 P) :: (nat_lit 17, o17_0 P) :: (nat_lit 18, o18_0 P) :: (nat_lit 20, o20_0 P) :: (nat_lit 21, o21_0 P) :: (nat_lit 22, o22_0 P) :: (nat_lit 29, o29_0 P) :: (nat_lit 30, o30_0 P) :: (nat_lit 31, o31_0 P) :: (nat_lit 32, o32_0 P) :: (nat_lit 35, o35_0 P) :: (nat_lit 42, o42_0 P) :: (nat_lit 43, o43_0 P) :: (nat_lit 44, o44_0 P) :: (nat_lit 47, o47_0 P) :: (nat_lit 54, o54_0 P) :: (nat_lit 55, o55_0 P) :: (nat_lit 56, o56_0 P) :: (nat_lit 59, o59_0 P) :: (nat_lit 66, o66_0 P) :: (nat_lit 67, o67_0 P) :: (nat_lit 68, o68_0 P) :: (nat_lit 71, o71_0 P) :: (nat_lit 78, o78_0 P) :: (nat_lit 79, o79_0 P) :: (nat_lit 80, o80_0 P) :: (nat_lit 83, o83_0 P) :: (nat_lit 86, o86_0 P) :: (nat_lit 87, o87_0 P) :: (nat_lit 88, o88_0 P) :: (nat_lit 90, o90_0 P) :: (nat_lit 91, o91_0 P) :: (nat_lit 93, o93_0 P) :: (nat_lit 94, o94_0 P) :: (nat_lit 95, o95_0 P) :: (nat_lit 97, o97_0 P) :: (nat_lit 98, o98_0 P) :: (nat_lit 100, o100_0 P) :: (nat_lit 101, o101_0 P) :: (nat_lit 102, o102_0 P) :: (nat_lit 104, o104_0 P) :: (nat_lit 105, o105_0 P) :: (nat_lit 107, o107_0 P) :: (nat_lit 108, o108_0 P) :: (nat_lit 109, o109_0 P) :: (nat_lit 111, o111_0 P) :: (nat_lit 112, o112_0 P) :: (nat_lit 114, o114_0 P) :: (nat_lit 115, o115_0 P) :: (nat_lit 116, o116_0 P) :: (nat_lit 118, o118_0 P) :: (nat_lit 119, o119_0 P) :: (nat_lit 121, o121_0 P) :: (nat_lit 122, o122_0 P) :: (nat_lit 130, o130_0 P) :: (nat_lit 131, o131_0 P) :: (nat_lit 132, o132_0 P) :: (nat_lit 134, o134_0 P) :: (nat_lit 135, o135_0 P) :: (nat_lit 137, o137_0 P) :: (nat_lit 138, o138_0 P) :: (nat_lit 139, o139_0 P) :: (nat_lit 141, o141_0 P) :: (nat_lit 142, o142_0 P) :: (nat_lit 144, o144_0 P) :: (nat_lit 145, o145_0 P) :: (nat_lit 146, o146_0 P) :: (nat_lit 148, o148_0 P) :: (nat_lit 149, o149_0 P) :: (nat_lit 151, o151_0 P) :: (nat_lit 152, o152_0 P) :: (nat_lit 153, o153_0 P) :: (nat_lit 155, o155_0 P) :: (nat_lit 156, o156_0 P) :: (nat_lit 158, o158_0 P) :: (nat_lit 159, o159_0 P) :: (nat_lit 160, o160_0 P) :: (nat_lit 162, o162_0 P) :: (nat_lit 163, o163_0 P) :: (nat_lit 165, o165_0 P) :: (nat_lit 166, o166_0 P) :: (nat_lit 167, o167_0 P) :: (nat_lit 169, o169_0 P) :: (nat_lit 170, o170_0 P) :: (nat_lit 172, o172_0 P) :: (nat_lit 173, o173_0 P) :: (nat_lit 174, o174_0 P) :: (nat_lit 175, o175_0 P) :: (nat_lit 176, o176_0 P) :: (nat_lit 177, o177_0 P) :: (nat_lit 178, o178_0 P) :: (nat_lit 188, o188_0 P) :: (nat_lit 191, o191_0 P) :: (nat_lit 192, o192_0 P) :: (nat_lit 193, o193_0 P) :: (nat_lit 195, o195_0 P) :: (nat_lit 196, o196_0 P) :: (nat_lit 198, o198_0 P) :: (nat_lit 199, o199_0 P) :: (nat_lit 200, o200_0 P) :: (nat_lit 201, o201_0 P) :: (nat_lit 202, o202_0 P) :: (nat_lit 203, o203_0 P) :: (nat_lit 204, o204_0 P) :: (nat_lit 214, o214_0 P) :: (nat_lit 216, o216_0 P) :: (nat_lit 217, o217_0 P) :: (nat_lit 219, o219_0 P) :: (nat_lit 220, o220_0 P) :: (nat_lit 221, o221_0 P) :: (nat_lit 223, o223_0 P) :: (nat_lit 224, o224_0 P) :: (nat_lit 226, o226_0 P) :: (nat_lit 227, o227_0 P) :: (nat_lit 228, o228_0 P) :: (nat_lit 230, o230_0 P) :: (nat_lit 231, o231_0 P) :: (nat_lit 233, o233_0 P) :: (nat_lit 234, o234_0 P) :: (nat_lit 235, o235_0 P) :: (nat_lit 238, o238_0 P) :: (nat_lit 239, o239_0 P) :: (nat_lit 240, o240_0 P) :: (nat_lit 243, o243_0 P) :: (nat_lit 244, o244_0 P) :: (nat_lit 245, o245_0 P) :: (nat_lit 247, o247_0 P) :: (nat_lit 248, o248_0 P) :: (nat_lit 250, o250_0 P) :: (nat_lit 251, o251_0 P) :: (nat_lit 252, o252_0 P) :: (nat_lit 255, o255_0 P) :: (nat_lit 256, o256_0 P) :: (nat_lit 257, o257_0 P) :: (nat_lit 259, o259_0 P) :: (nat_lit 260, o260_0 P) :: (nat_lit 262, o262_0 P) :: (nat_lit 263, o263_0 P) :: (nat_lit 264, o264_0 P) :: (nat_lit 266, o266_0 P) :: (nat_lit 267, o267_0 P) :: (nat_lit 269, o269_0 P) :: (nat_lit 270, o270_0 P) :: (nat_lit 271, o271_0 P) :: (nat_lit 273, o273_0 P) :: (nat_lit 274, o274_0 P) :: (nat_lit 276, o276_0 P) :: (nat_lit 277, o277_0 P) :: (nat_lit 278, o278_0 P) :: (nat_lit 280, o280_0 P) :: (nat_lit 281, o281_0 P) :: (nat_lit 283, o283_0 P) :: (nat_lit 284, o284_0 P) :: (nat_lit 285, o285_0 P) :: (nat_lit 287, o287_0 P) :: (nat_lit 288, o288_0 P) :: (nat_lit 290, o290_0 P) :: (nat_lit 291, o291_0 P) :: (nat_lit 292, o292_0 P) :: (nat_lit 294, o294_0 P) :: (nat_lit 295, o295_0 P) :: (nat_lit 297, o297_0 P) :: (nat_lit 298, o298_0 P) :: (nat_lit 299, o299_0 P) :: (nat_lit 301, o301_0 P) :: (nat_lit 302, o302_0 P) :: (nat_lit 304, o304_0 P) :: (nat_lit 305, o305_0 P) :: (nat_lit 306, o306_0 P) :: (nat_lit 309, o309_0 P) :: (nat_lit 310, o310_0 P) :: (nat_lit 311, o311_0 P) :: (nat_lit 313, o313_0 P) :: (nat_lit 314, o314_0 P) :: (nat_lit 316, o316_0 P) :: (nat_lit 317, o317_0 P) :: (nat_lit 318, o318_0 P) :: (nat_lit 320, o320_0 P) :: (nat_lit 321, o321_0 P) :: (nat_lit 323, o323_0 P) :: (nat_lit 324, o324_0 P) :: (nat_lit 325, o325_0 P) :: (nat_lit 327, o327_0 P) :: (nat_lit 328, o328_0 P) :: (nat_lit 330, o330_0 P) :: (nat_lit 331, o331_0 P) :: (nat_lit 332, o332_0 P) :: (nat_lit 334, o334_0 P) :: (nat_lit 335, o335_0 P) :: (nat_lit 337, o337_0 P) :: (nat_lit 338, o338_0 P) :: (nat_lit 339, o339_0 P) :: (nat_lit 340, o340_0 P) :: (nat_lit 341, o341_0 P) :: (nat_lit 342, o342_0 P) :: (nat_lit 343, o343_0 P) :: (nat_lit 346, o346_0 P) :: (nat_lit 349, o349_0 P) :: (nat_lit 350, o350_0 P) :: (nat_lit 358, o358_0 P) :: (nat_lit 360, o360_0 P) :: (nat_lit 361, o361_0 P) :: (nat_lit 363, o363_0 P) :: (nat_lit 364, o364_0 P) :: (nat_lit 365, o365_0 P) :: (nat_lit 367, o367_0 P) :: (nat_lit 368, o368_0 P) :: (nat_lit 370, o370_0 P) :: (nat_lit 371, o371_0 P) :: (nat_lit 372, o372_0 P) :: (nat_lit 374, o374_0 P) :: (nat_lit 375, o375_0 P) :: (nat_lit 377, o377_0 P) :: (nat_lit 378, o378_0 P) :: (nat_lit 379, o379_0 P) :: (nat_lit 381, o381_0 P) :: (nat_lit 382, o382_0 P) :: (nat_lit 384, o384_0 P) :: (nat_lit 385, o385_0 P) :: (nat_lit 386, o386_0 P) :: (nat_lit 388, o388_0 P) :: (nat_lit 389, o389_0 P) :: (nat_lit 391, o391_0 P) :: (nat_lit 392, o392_0 P) :: (nat_lit 393, o393_0 P) :: (nat_lit 395, o395_0 P) :: (nat_lit 396, o396_0 P) :: (nat_lit 398, o398_0 P) :: (nat_lit 399, o399_0 P) :: (nat_lit 400, o400_0 P) :: (nat_lit 402, o402_0 P) :: (nat_lit 403, o403_0 P) :: (nat_lit 405, o405_0 P) :: (nat_lit 406, o406_0 P) :: (nat_lit 407, o407_0 P) :: (nat_lit 409, o409_0 P) :: (nat_lit 410, o410_0 P) :: (nat_lit 412, o412_0 P) :: (nat_lit 413, o413_0 P) :: (nat_lit 414, o414_0 P) :: (nat_lit 417, o417_0 P) :: (nat_lit 418, o418_0 P) :: (nat_lit 419, o419_0 P) :: (nat_lit 422, o422_0 P) :: (nat_lit 423, o423_0 P) :: (nat_lit 424, o424_0 P) :: (nat_lit 426, o426_0 P) :: (nat_lit 427, o427_0 P) :: (nat_lit 429, o429_0 P) :: (nat_lit 430, o430_0 P) :: (nat_lit 431, o431_0 P) :: (nat_lit 433, o433_0 P) :: (nat_lit 434, o434_0 P) :: (nat_lit 436, o436_0 P) :: (nat_lit 437, o437_0 P) :: (nat_lit 438, o438_0 P) :: (nat_lit 440, o440_0 P) :: (nat_lit 441, o441_0 P) :: (nat_lit 443, o443_0 P) :: (nat_lit 444, o444_0 P) :: (nat_lit 445, o445_0 P) :: (nat_lit 446, o446_0 P) :: (nat_lit 447, o447_0 P) :: (nat_lit 448, o448_0 P) :: (nat_lit 449, o449_0 P) :: (nat_lit 452, o452_0 P) :: (nat_lit 453, o453_0 P) :: (nat_lit 454, o454_0 P) :: (nat_lit 455, o455_0 P) :: (nat_lit 456, o456_0 P) :: (nat_lit 457, o457_0 P) :: (nat_lit 458, o458_0 P) :: (nat_lit 459, o459_0 P) :: (nat_lit 461, o461_0 P) :: (nat_lit 462, o462_0 P) :: (nat_lit 464, o464_0 P) :: (nat_lit 465, o465_0 P) :: (nat_lit 466, o466_0 P) :: (nat_lit 468, o468_0 P) :: (nat_lit 469, o469_0 P) :: (nat_lit 471, o471_0 P) :: (nat_lit 472, o472_0 P) :: (nat_lit 473, o473_0 P) :: (nat_lit 475, o475_0 P) :: (nat_lit 476, o476_0 P) :: (nat_lit 478, o478_0 P) :: (nat_lit 479, o479_0 P) :: (nat_lit 480, o480_0 P) :: (nat_lit 482, o482_0 P) :: (nat_lit 483, o483_0 P) :: (nat_lit 485, o485_0 P) :: (nat_lit 486, o486_0 P) :: (nat_lit 487, o487_0 P) :: (nat_lit 489, o489_0 P) :: (nat_lit 490, o490_0 P) :: (nat_lit 492, o492_0 P) :: (nat_lit 493, o493_0 P) :: (nat_lit 501, o501_0 P) :: (nat_lit 502, o502_0 P) :: (nat_lit 503, o503_0 P) :: (nat_lit 506, o506_0 P) :: (nat_lit 507, o507_0 P) :: (nat_lit 508, o508_0 P) :: (nat_lit 510, o510_0 P) :: (nat_lit 511, o511_0 P) :: (nat_lit 513, o513_0 P) :: (nat_lit 514, o514_0 P) :: (nat_lit 515, o515_0 P) :: (nat_lit 516, o516_0 P) :: (nat_lit 518, o518_0 P) :: (nat_lit 519, o519_0 P) :: (nat_lit 521, o521_0 P) :: (nat_lit 522, o522_0 P) :: (nat_lit 523, o523_0 P) :: (nat_lit 524, o524_0 P) :: (nat_lit 526, o526_0 P) :: (nat_lit 527, o527_0 P) :: (nat_lit 529, o529_0 P) :: (nat_lit 530, o530_0 P) :: (nat_lit 531, o531_0 P) :: (nat_lit 533, o533_0 P) :: (nat_lit 534, o534_0 P) :: (nat_lit 536, o536_0 P) :: (nat_lit 537, o537_0 P) :: (nat_lit 538, o538_0 P) :: (nat_lit 540, o540_0 P) :: (nat_lit 541, o541_0 P) :: (nat_lit 543, o543_0 P) :: (nat_lit 544, o544_0 P) :: (nat_lit 545, o545_0 P) :: (nat_lit 547, o547_0 P) :: (nat_lit 548, o548_0 P) :: (nat_lit 550, o550_0 P) :: (nat_lit 551, o551_0 P) :: (nat_lit 552, o552_0 P) :: (nat_lit 554, o554_0 P) :: (nat_lit 555, o555_0 P) :: (nat_lit 557, o557_0 P) :: (nat_lit 558, o558_0 P) :: (nat_lit 559, o559_0 P) :: (nat_lit 561, o561_0 P) :: (nat_lit 562, o562_0 P) :: (nat_lit 564, o564_0 P) :: (nat_lit 565, o565_0 P) :: (nat_lit 566, o566_0 P) :: (nat_lit 568, o568_0 P) :: (nat_lit 569, o569_0 P) :: (nat_lit 571, o571_0 P) :: (nat_lit 572, o572_0 P) :: (nat_lit 573, o573_0 P) :: (nat_lit 574, o574_0 P) :: (nat_lit 575, o575_0 P) :: (nat_lit 576, o576_0 P) :: (nat_lit 577, o577_0 P) :: (nat_lit 580, o580_0 P) :: (nat_lit 582, o582_0 P) :: (nat_lit 583, o583_0 P) :: (nat_lit 585, o585_0 P) :: (nat_lit 586, o586_0 P) :: (nat_lit 587, o587_0 P) :: (nat_lit 589, o589_0 P) :: (nat_lit 590, o590_0 P) :: (nat_lit 592, o592_0 P) :: (nat_lit 593, o593_0 P) :: (nat_lit 594, o594_0 P) :: (nat_lit 596, o596_0 P) :: (nat_lit 597, o597_0 P) :: (nat_lit 599, o599_0 P) :: (nat_lit 600, o600_0 P) :: (nat_lit 601, o601_0 P) :: (nat_lit 603, o603_0 P) :: (nat_lit 604, o604_0 P) :: (nat_lit 606, o606_0 P) :: (nat_lit 607, o607_0 P) :: (nat_lit 608, o608_0 P) :: (nat_lit 611, o611_0 P) :: (nat_lit 612, o612_0 P) :: [])
def hA : List Addr := (nat_lit 2 :: nat_lit 3 :: nat_lit 15 :: nat_lit 17 :: nat_lit 18 :: nat_lit 20 :: nat_lit 21 :: nat_lit 22 :: nat_lit 29 :: nat_lit 30 :: nat_lit 31 :: nat_lit 32 :: nat_lit 35 :: nat_lit 42 :: nat_lit 43 :: nat_lit 44 :: nat_lit 47 :: nat_lit 54 :: nat_lit 55 :: nat_lit 56 :: nat_lit 59 :: nat_lit 66 :: nat_lit 67 :: nat_lit 68 :: nat_lit 71 :: nat_lit 78 :: nat_lit 79 :: nat_lit 80 :: nat_lit 83 :: nat_lit 86 :: nat_lit 87 :: nat_lit 88 :: nat_lit 90 :: nat_lit 91 :: nat_lit 93 :: nat_lit 94 :: nat_lit 95 :: nat_lit 97 :: nat_lit 98 :: nat_lit 100 :: nat_lit 101 :: nat_lit 102 :: nat_lit 104 :: nat_lit 105 :: nat_lit 107 :: nat_lit 108 :: nat_lit 109 :: nat_lit 111 :: nat_lit 112 :: nat_lit 114 :: nat_lit 115 :: nat_lit 116 :: nat_lit 118 :: nat_lit 119 :: nat_lit 121 :: nat_lit 122 :: nat_lit 130 :: nat_lit 131 :: nat_lit 132 :: nat_lit 134 :: nat_lit 135 :: nat_lit 137 :: nat_lit 138 :: nat_lit 139 :: nat_lit 141 :: nat_lit 142 :: nat_lit 144 :: nat_lit 145 :: nat_lit 146 :: nat_lit 148 :: nat_lit 149 :: nat_lit 151 :: nat_lit 152 :: nat_lit 153 :: nat_lit 155 :: nat_lit 156 :: nat_lit 158 :: nat_lit 159 :: nat_lit 160 :: nat_lit 162 :: nat_lit 163 :: nat_lit 165 :: nat_lit 166 :: nat_lit 167 :: nat_lit 169 :: nat_lit 170 :: nat_lit 172 :: nat_lit 173 :: nat_lit 174 :: nat_lit 175 :: nat_lit 176 :: nat_lit 177 :: nat_lit 178 :: nat_lit 188 :: nat_lit 191 :: nat_lit 192 :: nat_lit 193 :: nat_lit 195 :: nat_lit 196 :: nat_lit 198 :: nat_lit 199 :: nat_lit 200 :: nat_lit 201 :: nat_lit 202 :: nat_lit 203 :: nat_lit 204 :: nat_lit 214 :: nat_lit 216 :: nat_lit 217 :: nat_lit 219 :: nat_lit 220 :: nat_lit 221 :: nat_lit 223 :: nat_lit 224 :: nat_lit 226 :: nat_lit 227 :: nat_lit 228 :: nat_lit 230 :: nat_lit 231 :: nat_lit 233 :: nat_lit 234 :: nat_lit 235 :: nat_lit 238 :: nat_lit 239 :: nat_lit 240 :: nat_lit 243 :: nat_lit 244 :: nat_lit 245 :: nat_lit 247 :: nat_lit 248 :: nat_lit 250 :: nat_lit 251 :: nat_lit 252 :: nat_lit 255 :: nat_lit 256 :: nat_lit 257 :: nat_lit 259 :: nat_lit 260 :: nat_lit 262 :: nat_lit 263 :: nat_lit 264 :: nat_lit 266 :: nat_lit 267 :: nat_lit 269 :: nat_lit 270 :: nat_lit 271 :: nat_lit 273 :: nat_lit 274 :: nat_lit 276 :: nat_lit 277 :: nat_lit 278 :: nat_lit 280 :: nat_lit 281 :: nat_lit 283 :: nat_lit 284 :: nat_lit 285 :: nat_lit 287 :: nat_lit 288 :: nat_lit 290 :: nat_lit 291 :: nat_lit 292 :: nat_lit 294 :: nat_lit 295 :: nat_lit 297 :: nat_lit 298 :: nat_lit 299 :: nat_lit 301 :: nat_lit 302 :: nat_lit 304 :: nat_lit 305 :: nat_lit 306 :: nat_lit 309 :: nat_lit 310 :: nat_lit 311 :: nat_lit 313 :: nat_lit 314 :: nat_lit 316 :: nat_lit 317 :: nat_lit 318 :: nat_lit 320 :: nat_lit 321 :: nat_lit 323 :: nat_lit 324 :: nat_lit 325 :: nat_lit 327 :: nat_lit 328 :: nat_lit 330 :: nat_lit 331 :: nat_lit 332 :: nat_lit 334 :: nat_lit 335 :: nat_lit 337 :: nat_lit 338 :: nat_lit 339 :: nat_lit 340 :: nat_lit 341 :: nat_lit 342 :: nat_lit 343 :: nat_lit 346 :: nat_lit 349 :: nat_lit 350 :: nat_lit 358 :: nat_lit 360 :: nat_lit 361 :: nat_lit 363 :: nat_lit 364 :: nat_lit 365 :: nat_lit 367 :: nat_lit 368 :: nat_lit 370 :: nat_lit 371 :: nat_lit 372 :: nat_lit 374 :: nat_lit 375 :: nat_lit 377 :: nat_lit 378 :: nat_lit 379 :: nat_lit 381 :: nat_lit 382 :: nat_lit 384 :: nat_lit 385 :: nat_lit 386 :: nat_lit 388 :: nat_lit 389 :: nat_lit 391 :: nat_lit 392 :: nat_lit 393 :: nat_lit 395 :: nat_lit 396 :: nat_lit 398 :: nat_lit 399 :: nat_lit 400 :: nat_lit 402 :: nat_lit 403 :: nat_lit 405 :: nat_lit 406 :: nat_lit 407 :: nat_lit 409 :: nat_lit 410 :: nat_lit 412 :: nat_lit 413 :: nat_lit 414 :: nat_lit 417 :: nat_lit 418 :: nat_lit 419 :: nat_lit 422 :: nat_lit 423 :: nat_lit 424 :: nat_lit 426 :: nat_lit 427 :: nat_lit 429 :: nat_lit 430 :: nat_lit 431 :: nat_lit 433 :: nat_lit 434 :: nat_lit 436 :: nat_lit 437 :: nat_lit 438 :: nat_lit 440 :: nat_lit 441 :: nat_lit 443 :: nat_lit 444 :: nat_lit 445 :: nat_lit 446 :: nat_lit 447 :: nat_lit 448 :: nat_lit 449 :: nat_lit 452 :: nat_lit 453 :: nat_lit 454 :: nat_lit 455 :: nat_lit 456 :: nat_lit 457 :: nat_lit 458 :: nat_lit 459 :: nat_lit 461 :: nat_lit 462 :: nat_lit 464 :: nat_lit 465 :: nat_lit 466 :: nat_lit 468 :: nat_lit 469 :: nat_lit 471 :: nat_lit 472 :: nat_lit 473 :: nat_lit 475 :: nat_lit 476 :: nat_lit 478 :: nat_lit 479 :: nat_lit 480 :: nat_lit 482 :: nat_lit 483 :: nat_lit 485 :: nat_lit 486 :: nat_lit 487 :: nat_lit 489 :: nat_lit 490 :: nat_lit 492 :: nat_lit 493 :: nat_lit 501 :: nat_lit 502 :: nat_lit 503 :: nat_lit 506 :: nat_lit 507 :: nat_lit 508 :: nat_lit 510 :: nat_lit 511 :: nat_lit 513 :: nat_lit 514 :: nat_lit 515 :: nat_lit 516 :: nat_lit 518 :: nat_lit 519 :: nat_lit 521 :: nat_lit 522 :: nat_lit 523 :: nat_lit 524 :: nat_lit 526 :: nat_lit 527 :: nat_lit 529 :: nat_lit 530 :: nat_lit 531 :: nat_lit 533 :: nat_lit 534 :: nat_lit 536 :: nat_lit 537 :: nat_lit 538 :: nat_lit 540 :: nat_lit 541 :: nat_lit 543 :: nat_lit 544 :: nat_lit 545 :: nat_lit 547 :: nat_lit 548 :: nat_lit 550 :: nat_lit 551 :: nat_lit 552 :: nat_lit 554 :: nat_lit 555 :: nat_lit 557 :: nat_lit 558 :: nat_lit 559 :: nat_lit 561 :: nat_lit 562 :: nat_lit 564 :: nat_lit 565 :: nat_lit 566 :: nat_lit 568 :: nat_lit 569 :: nat_lit 571 :: nat_lit 572 :: nat_lit 573 :: nat_lit 574 :: nat_lit 575 :: nat_lit 576 :: nat_lit 577 :: nat_lit 580 :: nat_lit 582 :: nat_lit 583 :: nat_lit 585 :: nat_lit 586 :: nat_lit 587 :: nat_lit 589 :: nat_lit 590 :: nat_lit 592 :: nat_lit 593 :: nat_lit 594 :: nat_lit 596 :: nat_lit 597 :: nat_lit 599 :: nat_lit 600 :: nat_lit 601 :: nat_lit 603 :: nat_lit 604 :: nat_lit 606 :: nat_lit 607 :: nat_lit 608 :: nat_lit 611 :: nat_lit 612 :: [])
theorem hE : ∀ P, hA = (hK P).map (·.1) := fun _ => by kernel_rfl
def hT : List Addr := (nat_lit 16 :: nat_lit 84 :: nat_lit 89 :: nat_lit 96 :: nat_lit 103 :: nat_lit 110 :: nat_lit 117 :: nat_lit 133 :: nat_lit 140 :: nat_lit 147 :: nat_lit 154 :: nat_lit 161 :: nat_lit 168 :: nat_lit 189 :: nat_lit 194 :: nat_lit 215 :: nat_lit 222 :: nat_lit 229 :: nat_lit 236 :: nat_lit 241 :: nat_lit 246 :: nat_lit 253 :: nat_lit 258 :: nat_lit 265 :: nat_lit 272 :: nat_lit 279 :: nat_lit 286 :: nat_lit 293 :: nat_lit 300 :: nat_lit 307 :: nat_lit 312 :: nat_lit 319 :: nat_lit 326 :: nat_lit 333 :: nat_lit 347 :: nat_lit 359 :: nat_lit 366 :: nat_lit 373 :: nat_lit 380 :: nat_lit 387 :: nat_lit 394 :: nat_lit 401 :: nat_lit 408 :: nat_lit 415 :: nat_lit 420 :: nat_lit 425 :: nat_lit 432 :: nat_lit 439 :: nat_lit 460 :: nat_lit 467 :: nat_lit 474 :: nat_lit 481 :: nat_lit 488 :: nat_lit 504 :: nat_lit 509 :: nat_lit 517 :: nat_lit 525 :: nat_lit 532 :: nat_lit 539 :: nat_lit 546 :: nat_lit 553 :: nat_lit 560 :: nat_lit 567 :: nat_lit 581 :: nat_lit 588 :: nat_lit 595 :: nat_lit 602 :: nat_lit 609 :: [])
def nm0 : List PySem.Str := ["_wall", "SurenearError", "InvalidSchema", "InvalidRecord", "InvalidKey", "NotPinned", "PRIME", "string_part", "value_part", "row_of", "check_key", "fold", "mark_of", "Note", "Segment", "Ledger", "put_route", "Catalog", "RANGES", "MEASURES", "KINDS", "WORDS", "is_letter", "is_digit", "is_field_name", "kind_of_value", "words_fit", "Schema", "_law_row", "_law_next"]
def nm1 : List PySem.Str := ["_law_word", "_law_due"]
def names : List PySem.Str := nm0 ++ nm1
abbrev qv : Program := view pr [39]
theorem looks (w : World) (os : OsState) : (looksH pr (boot_heap w.params) (s4 w os).abs, seenH qv names (importedModules pr.main.body) (fun s => xlAt qv [] s && recOk RR.toRowW.records s) (s4 w os).abs, hA.map (HandSHeadRun.getT (s4 w os)), hT.map (HandSHeadRun.getT (s4 w os))) = (true, openGood qv names, (hK w.params).map (fun x => some x.2), hT.map fun _ => some (tabObj #[])) := by kernel_rfl
theorem run (w : World) (os : OsState) : ∃ s : Shared, topRun treeTable pr w 11 annV 4531 ⟨boot_heap w.params, #[], boot_drawn, boot_toks, os⟩ (topStub pr) = some s ∧ looksH pr (boot_heap w.params) s = true ∧ openSeen qv names (importedModules pr.main.body) (fun s => xlAt qv [] s && recOk RR.toRowW.records s) true s = openGood qv names ∧ (kmHook hK hA hE hT).obs s = (kmHook hK hA hE hT).val w := 
  looks_runT (whole w os) (looks w os)
abbrev lawD : DefRec := HandSHeadRun.topDef pr 39
theorem lawD_name : lawD.name = ("law" : PySem.Str) := by kernel_rfl
theorem left : LeftO pr qv names (fun s => xlAt qv [] s && recOk RR.toRowW.records s) (kmHook hK hA hE hT).obs (kmHook hK hA hE hT).val 5131 true := left_run (n0 := 11) (ann := annV) (M := 4531) (by kernel_rfl) (by decide) (fun s => by kernel_rfl) (by decide) (fun w => by kernel_rfl) (fun w => by kernel_rfl) run
end ZH
end
namespace Z
open PySem PySem.Spec L2
open C8 (tCut pss_cut)

def MulOk (i j : Int) : Prop := CMul i j ∨ CMulW i j
def uAdd (K : PySem.W.Frag) : R2 := fun x y H Q => match x, y with
  | .int i, .int j => Q (.int (i + j)) H
  | .str a, .str b => a.length + b.length ≤ sizeLine ∧ Q (.str (a ++ b)) H
  | .ref l, .ref b => rCat (.ref l) (.ref b) H Q ∨ rCatA K (.ref l) (.ref b) H Q
  | _, _ => False
def uSub : R2 := fun x y H Q => match x, y with
  | .int i, .int j => Q (.int (i - j)) H
  | _, _ => False
def uMul : R2 := fun x y H Q => match x, y with
  | .int i, .int j => MulOk i j ∧ Q (.int (i * j)) H
  | _, _ => False
def uDiv : R2 := fun x y H Q => match x, y with
  | .int i, .int j => CDivW i j ∧ Q (.int (i / j)) H
  | _, _ => False
def uMod : R2 := fun x y H Q => match x, y with
  | .int i, .int j => 0 < j ∧ Q (.int (i % j)) H
  | _, _ => False
def uPow : R2 := fun x y H Q => match x, y with
  | .int i, .int j => CPow i j ∧ Q (.int (i ^ j.toNat)) H
  | _, _ => False
def uNeg : V → Hp → VK → Prop := fun x H Q => match x with
  | .int i => Q (.int (-i)) H
  | _ => False
def ltV1 : V → V → Bool
  | .int i, .int j => decide (i < j)
  | .str a, .str b => decide (a.cps.toList < b.cps.toList)
  | _, _ => false
def same1 : V → V → Bool
  | .int _, .int _ => true
  | .str _, .str _ => true
  | _, _ => false
def ltV2 (xs ys : List V) (j : Nat) : Bool := match xs[j]?, ys[j]? with | some u, some v => ltV1 u v | _, _ => false
def rLtP (K : PySem.W.Frag) (a b : Addr) (H : Hp) (Q : VK) : Prop := ∃ xs ys : List V, SqT K H a xs ∧ SqT K H b ys ∧ (∀ (j : Nat) (u v : V), xs[j]? = some u → ys[j]? = some v → same1 u v = true) ∧
  Q (.bl (Ob.lexAt (fun j => decide (xs[j]? = ys[j]?)) (ltV2 xs ys) (decide (xs.length < ys.length)) 0 (min xs.length ys.length))) H
def uLt (K : PySem.W.Frag) : R2 := fun x y H Q => match x, y with
  | .int i, .int j => Q (.bl (decide (i < j))) H
  | .str i, .str j => Q (.bl (decide (i.cps.toList < j.cps.toList))) H
  | .ref a, .ref b => rLtT K (.ref a) (.ref b) H Q ∨ rLtP K a b H Q
  | _, _ => False
def uLe : R2 := fun x y H Q => match x, y with
  | .int i, .int j => Q (.bl (decide (i ≤ j))) H
  | .str i, .str j => Q (.bl (!decide (j.cps.toList < i.cps.toList))) H
  | _, _ => False
def uGt : R2 := fun x y H Q => match x, y with
  | .int i, .int j => Q (.bl (decide (j < i))) H
  | .str i, .str j => Q (.bl (decide (j.cps.toList < i.cps.toList))) H
  | _, _ => False
def uGe : R2 := fun x y H Q => match x, y with
  | .int i, .int j => Q (.bl (decide (j ≤ i))) H
  | .str i, .str j => Q (.bl (!decide (i.cps.toList < j.cps.toList))) H
  | _, _ => False
def sameSq (K : PySem.W.Frag) (H : Hp) (a c : Addr) (xs ys : List V) : Prop := (SqT K H a xs ∧ SqT K H c ys) ∨ (SqL K H a xs ∧ SqL K H c ys)
def allB (xs ys : List V) (e : Nat → Bool) : Bool := (List.range (min xs.length ys.length)).all e && (xs.length == ys.length)
def EqB (K : PySem.W.Frag) (H : Hp) : Nat → V → V → Bool → Prop
  | 0 => fun x y b => (flatV x = true ∧ flatV y = true ∧ b = eqV x y) ∨ (∃ a, x = .ref a ∧ y = .ref a ∧ b = true)
  | n + 1 => fun x y b => EqB K H n x y b ∨ ∃ a c xs ys e, x = .ref a ∧ y = .ref c ∧ sameSq K H a c xs ys ∧ (∀ (i : Nat) (x y : V), xs[i]? = some x → ys[i]? = some y → EqB K H n x y (e i)) ∧ b = allB xs ys e
def rSqB (K : PySem.W.Frag) (a c : Addr) (H : Hp) (Q : Bool → Prop) : Prop := ∃ n xs ys e, n ≤ 16 ∧ sameSq K H a c xs ys ∧ (∀ (i : Nat) (x y : V), xs[i]? = some x → ys[i]? = some y → EqB K H n x y (e i)) ∧ Q (allB xs ys e)
theorem sq_both {X : Cx} {pins : List (Addr × Obj)} {σ : L2.St} {H : Hp} {s : Shared} {A : Around} {a c : Addr} {xs ys : List V} {e : Nat → Bool} (I : Inv X pins σ H s) (hu : A.units < cLine) (h : sameSq X.K H a c xs ys)
    (he : ∀ (i : Nat) (x y : V), xs[i]? = some x → ys[i]? = some y → ∀ u v, RelV x u → RelV y v → SeqAt.EqAt A.in1 s u v (e i)) : SeqAt.RcAt A s (.ref a) (.ref c) (allB xs ys e) ∧ SeqAt.RcNeAt A s (.ref a) (.ref c) (!allB xs ys e) := by
  have items : ∀ {us vs : List Value}, Vals xs us → Vals ys vs → ∀ (j : Nat) (h1 : j < us.toArray.size) (h2 : j < vs.toArray.size), SeqAt.EqAt A.in1 s us.toArray[j] vs.toArray[j] (e j) := by
    intro us vs r1 r2 j h1 h2
    have l1 := r1.length
    have l2 := r2.length
    have k1 : j < us.length := by simpa using h1
    have k2 : j < vs.length := by simpa using h2
    obtain ⟨u, eu, ru⟩ := Vals.get r1 (List.getElem?_eq_getElem (show j < xs.length by omega))
    obtain ⟨v, ev, rv⟩ := Vals.get r2 (List.getElem?_eq_getElem (show j < ys.length by omega))
    have z1 : us.toArray[j] = u := by rw [List.getElem?_eq_getElem k1] at eu; simpa using Option.some.inj eu
    have z2 : vs.toArray[j] = v := by rw [List.getElem?_eq_getElem k2] at ev; simpa using Option.some.inj ev
    rw [z1, z2]
    exact he j _ _ (List.getElem?_eq_getElem (show j < xs.length by omega)) (List.getElem?_eq_getElem (show j < ys.length by omega)) u v ru rv
  rcases h with ⟨ha, hc⟩ | ⟨ha, hc⟩
  · obtain ⟨us, r1, p1, _⟩ := I.tuple ha
    obtain ⟨vs, r2, p2, _⟩ := I.tuple hc
    have z : ((List.range (min us.toArray.size vs.toArray.size)).all e && us.toArray.size == vs.toArray.size) = allB xs ys e := by
      unfold allB
      rw [show us.toArray.size = xs.length by simpa using r1.length.symm, show vs.toArray.size = ys.length by simpa using r2.length.symm]
    refine ⟨?_, ?_⟩
    · rw [← z]; exact SeqAt.RcAt.tuples p1 p2 hu (items r1 r2)
    · rw [← z]; exact SeqAt.RcNeAt.tuples p1 p2 hu (items r1 r2)
  · obtain ⟨us, r1, p1, _⟩ := I.list ha
    obtain ⟨vs, r2, p2, _⟩ := I.list hc
    have n1 : us.toArray.size = xs.length := by simpa using r1.length.symm
    have n2 : vs.toArray.size = ys.length := by simpa using r2.length.symm
    by_cases hl : xs.length = ys.length
    · have z : (List.range us.toArray.size).all e = allB xs ys e := by
        unfold allB
        rw [n1, hl, Nat.min_self, beq_self_eq_true, Bool.and_true]
      refine ⟨?_, ?_⟩
      · rw [← z]; exact SeqAt.RcAt.lists p1.isList p2.isList (by omega) hu (items r1 r2)
      · rw [← z]; exact SeqAt.RcNeAt.lists p1.isList p2.isList (by omega) hu (items r1 r2)
    · have z : allB xs ys e = false := by unfold allB; simp [hl]
      have ne : (us.toArray.size != vs.toArray.size) = true := by rw [n1, n2]; simpa using hl
      rw [z]
      exact ⟨SeqAt.RcAt.lists_lengths p1.isList p2.isList ne hu, SeqAt.RcNeAt.lists_lengths p1.isList p2.isList ne hu⟩
theorem EqB.det {X : Cx} {pins : List (Addr × Obj)} {σ : L2.St} {H : Hp} {s : Shared} (I : Inv X pins σ H s) : ∀ (n : Nat) (x : V) (b : Bool), EqB X.K H n x x b → b = true
  | 0, x, b, h => by
    rcases h with ⟨fx, _, rfl⟩ | ⟨a, _, _, rfl⟩
    · cases x <;> first | (cases fx; done) | (simp [eqV]; done)
    · rfl
  | n + 1, x, b, h => by
    rcases h with h | ⟨a, c, xs, ys, e, rfl, e2, hs, he, rfl⟩
    · exact EqB.det I n x b h
    · cases e2
      have z : xs = ys := by
        rcases hs with ⟨h1, h2⟩ | ⟨h1, h2⟩
        · exact I.tuple_inj h1 h2
        · exact I.list_inj h1 h2
      subst z
      unfold allB
      rw [Nat.min_self, beq_self_eq_true, Bool.and_true, List.all_eq_true]
      intro i hi
      have hi := List.mem_range.mp hi
      exact EqB.det I n _ _ (he i _ _ (List.getElem?_eq_getElem hi) (List.getElem?_eq_getElem hi))
theorem EqB.at {X : Cx} {pins : List (Addr × Obj)} {σ : L2.St} {H : Hp} {s : Shared} (I : Inv X pins σ H s) : ∀ (n : Nat) (x y : V) (b : Bool) (u v : Value) (A : Around), A.units + n < cLine → EqB X.K H n x y b → RelV x u → RelV y v → SeqAt.EqAt A s u v b
  | 0, x, y, b, u, v, A, _, h, rx, ry => by
    rcases h with ⟨fx, fy, rfl⟩ | ⟨a, rfl, rfl, rfl⟩
    · exact eqAt_V rx ry fx fy
    · cases rx; cases ry; exact SeqAt.EqAt.same _
  | n + 1, x, y, b, u, v, A, hu, h, rx, ry => by
    rcases h with h | ⟨a, c, xs, ys, e, rfl, rfl, hs, he, hb⟩
    · exact EqB.at I n x y b u v A (by omega) h rx ry
    · cases rx; cases ry
      by_cases q : a = c
      · subst q
        rw [EqB.det I (n + 1) (.ref a) b (.inr ⟨a, a, xs, ys, e, rfl, rfl, hs, he, hb⟩)]; exact SeqAt.EqAt.same _
      · rw [hb]
        refine SeqAt.EqAt.of_refs q (sq_both I (by omega) hs fun i x y e1 e2 u v r1 r2 => EqB.at I n x y (e i) u v A.in1 ?_ (he i x y e1 e2) r1 r2).1
        show A.units + 1 + n < cLine
        omega
theorem op_sqB {X : Cx} (hu : X.A.units + 64 < cLine) {pins : List (Addr × Obj)} {σ : L2.St} {H : Hp} {s : Shared} {a c : Addr} {Q : VK} (I : Inv X pins σ H s) :
    (rSqB X.K a c H (fun b => Q (.bl b) H) → wpAny (model X.prog X.w) X.A (compareOp .Eq (.ref a) (.ref c)) (EP X pins σ Q) X.xe s) ∧ (rSqB X.K a c H (fun b => Q (.bl (!b)) H) → wpAny (model X.prog X.w) X.A (compareOp .NotEq (.ref a) (.ref c)) (EP X pins σ Q) X.xe s) := by
  have key : ∀ {n : Nat} {xs ys : List V} {e : Nat → Bool}, n ≤ 16 → sameSq X.K H a c xs ys → (∀ (i : Nat) (x y : V), xs[i]? = some x → ys[i]? = some y → EqB X.K H n x y (e i)) → _ := fun {n xs ys e} hn hs he => sq_both (A := X.A) I (by omega) hs fun i x y e1 e2 u v r1 r2 => EqB.at I n x y (e i) u v X.A.in1 (by show X.A.units + 1 + n < cLine; omega) (he i x y e1 e2) r1 r2
  refine ⟨fun ⟨n, xs, ys, e, hn, hs, he, q⟩ => ?_, fun ⟨n, xs, ys, e, hn, hs, he, q⟩ => ?_⟩
  · exact (key hn hs he).1 X.prog X.w X.xe _ ⟨.bl _, H, I, rfl, q⟩
  · exact (key hn hs he).2 X.prog X.w X.xe _ ⟨.bl _, H, I, rfl, q⟩
def uEq (K : PySem.W.Frag) : R2 := fun x y H Q => match x, y with
  | .int i, .int j => Q (.bl (decide (i = j))) H
  | .str i, .str j => Q (.bl (decide (i = j))) H
  | .bl i, .bl j => Q (.bl (decide (i = j))) H
  | .non, .non => Q (.bl true) H
  | .ref a, .ref b => rEqD K (.ref a) (.ref b) H Q ∨ rSqB K a b H (fun k => Q (.bl k) H)
  | x, y => (scal x y = true ∧ Q (.bl (decide (x = y))) H) ∨ rEqD K x y H Q
def uNe (K : PySem.W.Frag) : R2 := fun x y H Q => match x, y with
  | .int i, .int j => Q (.bl (!decide (i = j))) H
  | .str i, .str j => Q (.bl (!decide (i = j))) H
  | .bl i, .bl j => Q (.bl (!decide (i = j))) H
  | .non, .non => Q (.bl false) H
  | .ref a, .ref b => rNeD K (.ref a) (.ref b) H Q ∨ rSqB K a b H (fun k => Q (.bl (!k)) H)
  | x, y => (scal x y = true ∧ Q (.bl (!decide (x = y))) H) ∨ rNeD K x y H Q
def uIs : R2 := fun x y H Q => match x, y with
  | x, .non => Q (.bl (decide (x = .non))) H
  | .bl a, .bl b => Q (.bl (decide (a = b))) H
  | _, _ => False
def uIsNot : R2 := fun x y H Q => match x, y with
  | x, .non => Q (.bl (!decide (x = .non))) H
  | .bl a, .bl b => Q (.bl (!decide (a = b))) H
  | _, _ => False
def uIn (K : PySem.W.Frag) : R2 := fun x y H Q => match x, y with
  | .str i, .str j => Q (.bl (!(Builtin.Str.occurrences j i 0 j.length 1).isEmpty)) H
  | x, y => rIn K false x y H Q
def uNotIn (K : PySem.W.Frag) : R2 := fun x y H Q => match x, y with
  | .str i, .str j => Q (.bl (!(!(Builtin.Str.occurrences j i 0 j.length 1).isEmpty))) H
  | x, y => rIn K true x y H Q

section
variable {X : Cx}
theorem op_uAdd : OpR X (binaryOp .Add) (uAdd X.K) := by
  intro pins s σ H x y v u Q I rx ry h
  cases x <;> cases y <;> first | exact h.elim | skip
  · exact op_add pins s σ H _ _ _ _ Q I rx ry ⟨_, _, rfl, rfl, h⟩
  · exact op_add_str pins s σ H _ _ _ _ Q I rx ry ⟨_, _, rfl, rfl, h.1, h.2⟩
  · rcases h with h | h
    · exact op_cat pins s σ H _ _ _ _ Q I rx ry h
    · exact op_catA pins s σ H _ _ _ _ Q I rx ry h
theorem op_uSub : OpR X (binaryOp .Sub) uSub := by
  intro pins s σ H x y v u Q I rx ry h
  cases x <;> cases y <;> first | exact h.elim | skip
  exact op_sub pins s σ H _ _ _ _ Q I rx ry ⟨_, _, rfl, rfl, h⟩
theorem op_uMul : OpR X (binaryOp .Mult) uMul := by
  intro pins s σ H x y v u Q I rx ry h
  cases x <;> cases y <;> first | exact h.elim | skip
  rcases h with ⟨h | h, q⟩
  · exact op_mul pins s σ H _ _ _ _ Q I rx ry ⟨_, _, rfl, rfl, h, q⟩
  · exact op_mulW pins s σ H _ _ _ _ Q I rx ry ⟨_, _, rfl, rfl, h, q⟩
theorem op_uDiv : OpR X (binaryOp .FloorDiv) uDiv := by
  intro pins s σ H x y v u Q I rx ry h
  cases x <;> cases y <;> first | exact h.elim | skip
  exact op_fdivW pins s σ H _ _ _ _ Q I rx ry ⟨_, _, rfl, rfl, h.1, h.2⟩
theorem op_uMod : OpR X (binaryOp .Mod) uMod := by
  intro pins s σ H x y v u Q I rx ry h
  cases x <;> cases y <;> first | exact h.elim | skip
  exact op_mod pins s σ H _ _ _ _ Q I rx ry ⟨_, _, rfl, rfl, h.1, h.2⟩
theorem op_uPow : OpR X (binaryOp .Pow) uPow := by
  intro pins s σ H x y v u Q I rx ry h
  cases x <;> cases y <;> first | exact h.elim | skip
  exact op_pow pins s σ H _ _ _ _ Q I rx ry ⟨_, _, rfl, rfl, h.1, h.2⟩
theorem un_uNeg : UnR X (unaryOp .USub) uNeg := by
  intro pins s σ H x v Q I rx h
  cases x <;> first | exact h.elim | skip
  exact un_neg pins s σ H _ _ Q I rx ⟨_, rfl, h⟩
theorem op_ltP (hu : X.A.units < cLine) {pins : List (Addr × Obj)} {s : Shared} {σ : L2.St} {H : Hp} {a b : Addr} {Q : VK} (I : Inv X pins σ H s) (h : rLtP X.K a b H Q) :
    wpAny (model X.prog X.w) X.A (compareOp .Lt (.ref a) (.ref b)) (EP X pins σ Q) X.xe s := by
  obtain ⟨xs, ys, ha, hb, hk, q⟩ := h
  obtain ⟨us, r1, p1, _⟩ := I.tuple ha
  obtain ⟨vs, r2, p2, _⟩ := I.tuple hb
  have l1 := r1.length
  have l2 := r2.length
  have both : ∀ (j : Nat) (h1 : j < us.toArray.size) (h2 : j < vs.toArray.size), ∃ x y : V, xs[j]? = some x ∧ ys[j]? = some y ∧ RelV x us.toArray[j] ∧ RelV y vs.toArray[j] := by
    intro j h1 h2
    have k1 : j < us.length := by simpa using h1
    have k2 : j < vs.length := by simpa using h2
    obtain ⟨u, eu, ru⟩ := Vals.get r1 (List.getElem?_eq_getElem (show j < xs.length by omega))
    obtain ⟨v, ev, rv⟩ := Vals.get r2 (List.getElem?_eq_getElem (show j < ys.length by omega))
    refine ⟨_, _, List.getElem?_eq_getElem (show j < xs.length by omega), List.getElem?_eq_getElem (show j < ys.length by omega), ?_, ?_⟩
    · rw [List.getElem?_eq_getElem k1] at eu
      have : us.toArray[j] = u := by simpa using Option.some.inj eu
      rw [this]; exact ru
    · rw [List.getElem?_eq_getElem k2] at ev
      have : vs.toArray[j] = v := by simpa using Option.some.inj ev
      rw [this]; exact rv
  have R := Ob.RcOp.tuples_lt (A := X.A) (s := s) (e := fun j => decide (xs[j]? = ys[j]?)) (r := ltV2 xs ys) p1 p2 hu (fun j h1 h2 => by
    obtain ⟨x, y, ex, ey, rx, ry⟩ := both j h1 h2
    have k := hk j x y ex ey
    rw [ex, ey]
    cases x <;> cases y <;> first | exact Bool.noConfusion (show false = true from k) | skip
    · rename_i i i'
      obtain ⟨t, et⟩ := rx
      obtain ⟨t', et'⟩ := ry
      rw [et, et', show decide (some (V.int i) = some (V.int i')) = (i == i') by rw [Bool.eq_iff_iff]; simp]
      exact SeqAt.EqAt.int_int _ _ _ _
    · rename_i i i'
      obtain ⟨t, et⟩ := rx
      obtain ⟨t', et'⟩ := ry
      rw [et, et', show decide (some (V.str i) = some (V.str i')) = (i == i') by rw [Bool.eq_iff_iff]; simp]
      exact SeqAt.EqAt.str_str _ _ _ _) (fun j h1 h2 _ => by
    obtain ⟨x, y, ex, ey, rx, ry⟩ := both j h1 h2
    have k := hk j x y ex ey
    rw [show ltV2 xs ys j = ltV1 x y by unfold ltV2; rw [ex, ey]]
    cases x <;> cases y <;> first | exact Bool.noConfusion (show false = true from k) | skip
    · obtain ⟨t, et⟩ := rx
      obtain ⟨t', et'⟩ := ry
      rw [et, et']
      exact Ob.RcOp.lt_int _ _ _ _
    · obtain ⟨t, et⟩ := rx
      obtain ⟨t', et'⟩ := ry
      rw [et, et']
      exact fun _ _ _ _ h => PyProof.Rows.lt_str (by simpa [ltV1] using h))
  rw [show us.toArray.size = xs.length by simpa using l1.symm, show vs.toArray.size = ys.length by simpa using l2.symm] at R
  exact R X.prog X.w X.xe (EP X pins σ Q) ⟨.bl _, H, I, rfl, q⟩
theorem op_uLt (hu : X.A.units + 64 < cLine) : OpR X (compareOp .Lt) (uLt X.K) := by
  intro pins s σ H x y v u Q I rx ry h
  cases x <;> cases y <;> first | exact h.elim | skip
  · exact op_lt pins s σ H _ _ _ _ Q I rx ry ⟨_, _, rfl, rfl, h⟩
  · exact op_lt_str pins s σ H _ _ _ _ Q I rx ry ⟨_, _, rfl, rfl, h⟩
  · rcases h with h | h
    · exact op_ltT (by omega) pins s σ H _ _ _ _ Q I rx ry h
    · cases rx; cases ry; exact op_ltP (by omega) I h
theorem op_uLe : OpR X (compareOp .LtE) uLe := by
  intro pins s σ H x y v u Q I rx ry h
  cases x <;> cases y <;> first | exact h.elim | skip
  · exact op_le pins s σ H _ _ _ _ Q I rx ry ⟨_, _, rfl, rfl, h⟩
  · exact op_le_str pins s σ H _ _ _ _ Q I rx ry ⟨_, _, rfl, rfl, h⟩
theorem op_uGe : OpR X (compareOp .GtE) uGe := by
  intro pins s σ H x y v u Q I rx ry h
  cases x <;> cases y <;> first | exact h.elim | skip
  · exact op_ge pins s σ H _ _ _ _ Q I rx ry ⟨_, _, rfl, rfl, h⟩
  · exact op_ge_str pins s σ H _ _ _ _ Q I rx ry ⟨_, _, rfl, rfl, h⟩
theorem V_int_dec {i j : Int} : decide (V.int i = V.int j) = decide (i = j) := by
  rw [Bool.eq_iff_iff]; simp
theorem V_str_dec {i j : Str} : decide (V.str i = V.str j) = decide (i = j) := by
  rw [Bool.eq_iff_iff]; simp
theorem V_bl_dec {i j : Bool} : decide (V.bl i = V.bl j) = decide (i = j) := by
  rw [Bool.eq_iff_iff]; simp
theorem op_uEq (hu : X.A.units + 64 < cLine) : OpR X (compareOp .Eq) (uEq X.K) := by
  intro pins s σ H x y v u Q I rx ry h
  have gen : (scal x y = true ∧ Q (.bl (decide (x = y))) H) ∨ rEqD X.K x y H Q → _ := fun z => (op_eq.or (op_eqD hu)) pins s σ H x y v u Q I rx ry z
  cases x <;> cases y <;> first | exact gen h | skip
  · exact gen (.inl ⟨rfl, h⟩)
  · exact gen (.inl ⟨rfl, by rw [V_bl_dec]; exact h⟩)
  · exact gen (.inl ⟨rfl, by rw [V_int_dec]; exact h⟩)
  · exact gen (.inl ⟨rfl, by rw [V_str_dec]; exact h⟩)
  · rcases h with h | h
    · exact gen (.inr h)
    · cases rx; cases ry; exact (op_sqB hu I).1 h
theorem op_uNe (hu : X.A.units + 64 < cLine) : OpR X (compareOp .NotEq) (uNe X.K) := by
  intro pins s σ H x y v u Q I rx ry h
  have gen : (scal x y = true ∧ Q (.bl (!decide (x = y))) H) ∨ rNeD X.K x y H Q → _ := fun z => (op_ne.or (op_neD hu)) pins s σ H x y v u Q I rx ry z
  cases x <;> cases y <;> first | exact gen h | skip
  · exact gen (.inl ⟨rfl, h⟩)
  · exact gen (.inl ⟨rfl, by rw [V_bl_dec]; exact h⟩)
  · exact gen (.inl ⟨rfl, by rw [V_int_dec]; exact h⟩)
  · exact gen (.inl ⟨rfl, by rw [V_str_dec]; exact h⟩)
  · rcases h with h | h
    · exact gen (.inr h)
    · cases rx; cases ry; exact (op_sqB hu I).2 h
theorem op_uIs : OpR X (compareOp .Is) uIs := by
  intro pins s σ H x y v u Q I rx ry h
  cases y <;> first | (cases x <;> exact h.elim) | skip
  · exact op_isN pins s σ H _ _ _ _ Q I rx ry ⟨rfl, by cases x <;> exact h⟩
  · cases x <;> first | exact h.elim | skip
    exact op_is_bl pins s σ H _ _ _ _ Q I rx ry ⟨_, _, rfl, rfl, h⟩
theorem op_uIn : OpR X (compareOp .In) (uIn X.K) := by
  intro pins s σ H x y v u Q I rx ry h
  cases x <;> cases y <;> first | exact op_in_str pins s σ H _ _ _ _ Q I rx ry ⟨_, _, rfl, rfl, h⟩ | exact op_in_seq pins s σ H _ _ _ _ Q I rx ry h
theorem op_uNotIn : OpR X (compareOp .NotIn) (uNotIn X.K) := by
  intro pins s σ H x y v u Q I rx ry h
  cases x <;> cases y <;> first | exact op_notin_str pins s σ H _ _ _ _ Q I rx ry ⟨_, _, rfl, rfl, h⟩ | exact op_notIn_seq pins s σ H _ _ _ _ Q I rx ry h
end

def uIx (K : PySem.W.Frag) : R2 := fun x y H Q => match x, y with
  | .ref p, .int i => ∃ xs v, (SqL K H p xs ∨ SqT K H p xs) ∧ atI xs i = some v ∧ Q v H
  | .str z, .int i => ∃ c, z.length ≤ sizeLine ∧ atI z.cps.toList i = some c ∧ Q (.str ⟨#[c]⟩) H
  | _, _ => False
def uLen (K : PySem.W.Frag) : List V → Hp → VK → Prop := fun vs H Q => match vs with
  | [.ref p] => ∃ xs, (SqL K H p xs ∨ SqT K H p xs) ∧ Q (.int xs.length) H
  | [.str z] => z.length ≤ sizeLine ∧ Q (.int z.length) H
  | _ => False
def uInt : List V → Hp → VK → Prop := fun vs H Q => match vs with
  | [.int i] => Q (.int i) H
  | [.bl b] => Q (.int (if b then 1 else 0)) H
  | _ => False
def uMax : List V → Hp → VK → Prop := fun vs H Q => match vs with
  | [.int i, .int j] => Q (.int (if j > i then j else i)) H
  | _ => False
def uMin : List V → Hp → VK → Prop := fun vs H Q => match vs with
  | [.int i, .int j] => Q (.int (if j < i then j else i)) H
  | _ => False
def uAbs : List V → Hp → VK → Prop := fun vs H Q => match vs with
  | [.int i] => Q (.int (if i < 0 then -i else i)) H
  | _ => False
def uList (K : PySem.W.Frag) : List V → Hp → VK → Prop := fun vs H Q => match vs with
  | [.ref p] => ∃ xs, (SqL K H p xs ∨ SqT K H p xs) ∧ ∀ l, H l = none → Q (.ref l) (upd H l (.lst xs))
  | _ => False
def uTuple (K : PySem.W.Frag) : List V → Hp → VK → Prop := fun vs H Q => match vs with
  | [.ref p] => ∃ xs, (SqL K H p xs ∧ ∀ l, H l = none → Q (.ref l) (upd H l (.tup xs))) ∨ (SqT K H p xs ∧ Q (.ref p) H)
  | _ => False
def uIsi (K : PySem.W.Frag) : List V → Hp → VK → Prop := fun vs H Q => match vs with
  | [x, c] => ∃ (t u : Value) (b : Bool), ClsV c u ∧ TyX K H x t ∧ PySem.W.kitOne K t u = some b ∧ Q (.bl b) H
  | _ => False
def tTru (K : PySem.W.Frag) (ta : TE) : TT := fun σ H Q => ta σ H fun x H' => ∃ k, TruV K x H' k ∧ Q k H'
def tCal (sp : Sp) (t : TA) : TE := fun σ H Q => t σ H fun vs H1 => sp vs H1 Q E0
section
variable {X : Cx}
theorem ix_uIx : IxR X (uIx X.K) := by
  intro ea eb pins s σ H x y v u Q I rx ry h hp
  cases x <;> cases y <;> first | exact h.elim | skip
  · obtain ⟨c, hz, ha, q⟩ := h
    exact ix_str ea eb pins s σ H _ _ _ _ Q I rx ry ⟨_, _, c, rfl, rfl, hz, ha, q⟩ hp
  · obtain ⟨xs, w, hl, ha, q⟩ := h
    rcases hl with hl | hl
    · exact ix_list ea eb pins s σ H _ _ _ _ Q I rx ry ⟨_, xs, _, w, rfl, rfl, hl, ha, q⟩ hp
    · exact ix_tup ea eb pins s σ H _ _ _ _ Q I rx ry ⟨_, xs, _, w, rfl, rfl, hl, ha, q⟩ hp
theorem call_uLen : CallR X (.builtin "len") (uLen X.K) := by
  intro pins s σ H vs us Q I r h
  rcases vs with _ | ⟨x, _ | ⟨y, t⟩⟩
  · exact h.elim
  · cases x <;> first | exact h.elim | skip
    · exact call_len pins s σ H _ _ Q I r ⟨_, _, rfl, ⟨h.1, rfl⟩, h.2⟩
    · obtain ⟨xs, hl, q⟩ := h
      refine call_len pins s σ H _ _ Q I r ⟨_, xs.length, rfl, ?_, q⟩
      rcases hl with hl | hl
      · exact .inl ⟨_, hl, rfl⟩
      · exact .inr ⟨_, hl, rfl⟩
  · cases x <;> exact h.elim
theorem call_uInt : CallR X (.type "int") uInt := by
  intro pins s σ H vs us Q I r h
  rcases vs with _ | ⟨x, _ | ⟨y, t⟩⟩
  · exact h.elim
  · cases x <;> first | exact h.elim | skip
    · exact call_int1 pins s σ H _ _ Q I r (.inr ⟨_, rfl, h⟩)
    · exact call_int1 pins s σ H _ _ Q I r (.inl ⟨_, rfl, h⟩)
  · cases x <;> exact h.elim
theorem call_uList : CallR X (.type "list") (uList X.K) := by
  intro pins s σ H vs us Q I r h
  rcases vs with _ | ⟨x, _ | ⟨y, t⟩⟩
  · exact h.elim
  · cases x <;> first | exact h.elim | skip
    obtain ⟨xs, hl, q⟩ := h
    exact call_list_of pins s σ H _ _ Q I r ⟨_, xs, rfl, hl, q⟩
  · cases x <;> exact h.elim
theorem call_uTuple : CallR X (.type "tuple") (uTuple X.K) := by
  intro pins s σ H vs us Q I r h
  rcases vs with _ | ⟨x, _ | ⟨y, t⟩⟩
  · exact h.elim
  · cases x <;> first | exact h.elim | skip
    obtain ⟨xs, hl⟩ := h
    exact call_tuple_of pins s σ H _ _ Q I r ⟨_, xs, rfl, hl⟩
  · cases x <;> exact h.elim
theorem pt_u {a : Expr} {ta : TE} (ha : PE X a ta) (he : ∀ whole, isTrue a X.env whole = (do let v ← whole; standAt a.pos; holding [v] (truthy v)) := by intro _; rfl) : PT X a (tTru X.K ta) := pt_truth ha he
end

structure Dfn (P : Program) (w : World) (K : PySem.W.Frag) (mg : Str → Option Value) (base : Heap) (k : Nat) (x : Str) (ps : List Str) (sp : Sp) : Prop where
  ex : ∃ (f : Addr) (fd : FuncData), mg x = some (.ref f) ∧ PySem.W.keepIn K (.ref f) = true ∧ Binds K fd ps [] ∧ FnOk P w K mg base CX0 k f fd ps sp
theorem nil_sp (sp : Sp) (t : TA) : tCall sp [] E0 t = tCal sp t := by
  funext σ H Q
  simp only [tCall, tCal, List.append_nil]
section
variable {X : Cx} {k : Nat} {x : Str} {ps : List Str} {sp : Sp} {p pos : Pos} {e : Expr} {es : List Expr} {t : TA}
theorem z_call (D : Dfn X.prog X.w X.K X.mg X.base k x ps sp) (hr : Room k X.A) (hg : Gl X x) (ha : PA X (e :: es) t) (hdb : (x == ("__debug__" : Str)) = false := by decide)
    (he : starEach (e :: es) X.env = (false, eval e X.env) :: starEach es X.env := by rfl) (hpl : (backTo pos (starEach es X.env)).any (·.1) = false := by rfl) : PE X (.Call (.Name x p) (e :: es) [] pos) (tCal sp t) := by
  obtain ⟨f, fd, hm, hk, hb, F⟩ := D.ex
  rw [← nil_sp]
  exact pe_call F hr hg hm hk hb .nil pass0 ha hdb he hpl
end

def zNewL (xs : List V) (H : Hp) (Q : VK) : Prop := xs.length ≤ sizeLine ∧ ∀ p, H p = none → Q (.ref p) (upd H p (.lst xs))
def zNewT (xs : List V) (H : Hp) (Q : VK) : Prop := xs.length ≤ sizeLine ∧ ∀ p, H p = none → Q (.ref p) (upd H p (.tup xs))
section
variable {K : PySem.W.Frag} {σ : St} {H : Hp} {i : Nat} {v : V} {Q : VK} {QA : List V → Hp → Prop} {QB : Bool → Hp → Prop} {r : R2} {r1 : V → Hp → VK → Prop} {rl : List V → Hp → VK → Prop} {ta tb te : TE} {tr t : TA} {c u : TT} {sp : Sp} {xs : List V} {a b : Int} {x y : Str} {p q : Addr} {bb : Bool} {D : Ends} {t1 t2 : TS}
theorem z_var (h : σ[i]? = some (some v)) (k : Q v H) : tVar i σ H Q := ⟨v, h, k⟩
theorem z_c (k : Q v H) : tC v σ H Q := k
theorem z_op (k : ta σ H fun x H1 => tb σ H1 fun y H2 => r x y H2 Q) : tOp r ta tb σ H Q := k
theorem z_un (k : ta σ H fun x H1 => r1 x H1 Q) : tUn r1 ta σ H Q := k
theorem z_cb (k : t σ H fun vs H1 => rl vs H1 Q) : tCB rl t σ H Q := k
theorem z_cal (k : t σ H fun vs H1 => sp vs H1 Q E0) : tCal sp t σ H Q := k
theorem z_nil (k : QA [] H) : tNil σ H QA := k
theorem z_cons (k : ta σ H fun x H1 => tr σ H1 fun xs H2 => QA (x :: xs) H2) : tCons ta tr σ H QA := k
theorem z_lst (k : t σ H fun xs H1 => zNewL xs H1 Q) : tLst t σ H Q := k
theorem z_tup (k : t σ H fun xs H1 => zNewT xs H1 Q) : tTup t σ H Q := k
theorem z_newL (h : xs.length ≤ 100000) (k : ∀ p, H p = none → Q (.ref p) (upd H p (.lst xs))) : zNewL xs H Q := ⟨Nat.le_trans h (by decide), k⟩
theorem z_newT (h : xs.length ≤ 100000) (k : ∀ p, H p = none → Q (.ref p) (upd H p (.tup xs))) : zNewT xs H Q := ⟨Nat.le_trans h (by decide), k⟩
theorem z_test (k : te σ H fun x H' => ∃ k, x = .bl k ∧ QB k H') : tTest te σ H QB := k
theorem z_bl (k : QB bb H) : ∃ k, V.bl bb = .bl k ∧ QB k H := ⟨bb, rfl, k⟩
theorem z_tru (k : te σ H fun x H' => ∃ k, TruV K x H' k ∧ QB k H') : tTru K te σ H QB := k
theorem z_trub {P : Bool → Prop} (k : P bb) : ∃ k, TruV K (.bl bb) H k ∧ P k := ⟨bb, rfl, k⟩
theorem z_trui {P : Bool → Prop} (k : P (a != 0)) : ∃ k, TruV K (.int a) H k ∧ P k := ⟨_, rfl, k⟩
theorem z_and (k : c σ H fun b H1 => if b = true then u σ H1 QB else QB false H1) : tAnd c u σ H QB := k
theorem z_or (k : c σ H fun b H1 => if b = true then QB true H1 else u σ H1 QB) : tOr c u σ H QB := k
theorem z_not (k : c σ H fun b H1 => QB (!b) H1) : tNot c σ H QB := k
theorem z_andV (k : ta σ H fun x H1 => ∃ c, x = .bl c ∧ if c = true then tb σ H1 Q else Q (.bl false) H1) : tAndV ta tb σ H Q := k
theorem z_orV (k : ta σ H fun x H1 => ∃ c, x = .bl c ∧ if c = true then Q (.bl true) H1 else tb σ H1 Q) : tOrV ta tb σ H Q := k
theorem z_notV (k : ta σ H fun x H1 => ∃ c, x = .bl c ∧ Q (.bl (!c)) H1) : tNotV ta σ H Q := k
theorem z_if (k : c σ H fun b H1 => if b = true then ta σ H1 Q else tb σ H1 Q) : tIf c ta tb σ H Q := k
theorem z_bl1 {P : Bool → Prop} (k : P bb) : ∃ k, V.bl bb = .bl k ∧ P k := ⟨bb, rfl, k⟩
-- operators
theorem z_add (k : Q (.int (a + b)) H) : uAdd K (.int a) (.int b) H Q := k
theorem z_sub (k : Q (.int (a - b)) H) : uSub (.int a) (.int b) H Q := k
theorem z_mul (h : MulOk a b) (k : Q (.int (a * b)) H) : uMul (.int a) (.int b) H Q := ⟨h, k⟩
theorem z_div (h : CDivW a b) (k : Q (.int (a / b)) H) : uDiv (.int a) (.int b) H Q := ⟨h, k⟩
theorem z_mod (h : 0 < b) (k : Q (.int (a % b)) H) : uMod (.int a) (.int b) H Q := ⟨h, k⟩
theorem z_pow (h : CPow a b) (k : Q (.int (a ^ b.toNat)) H) : uPow (.int a) (.int b) H Q := ⟨h, k⟩
theorem z_neg (k : Q (.int (-a)) H) : uNeg (.int a) H Q := k
theorem z_lt (k : Q (.bl (decide (a < b))) H) : uLt K (.int a) (.int b) H Q := k
theorem z_ltS (k : Q (.bl (decide (x.cps.toList < y.cps.toList))) H) : uLt K (.str x) (.str y) H Q := k
theorem z_ltIS {i j : Int} {x y : Str} (h1 : SqT K H p [.int i, .str x]) (h2 : SqT K H q [.int j, .str y]) (k : Q (.bl (if i = j then decide (x.cps.toList < y.cps.toList) else decide (i < j))) H) : uLt K (.ref p) (.ref q) H Q := by
  refine .inr ⟨_, _, h1, h2, ?_, ?_⟩
  · intro n u v hu hv
    match n with
    | 0 => cases hu; cases hv; rfl
    | 1 => cases hu; cases hv; rfl
    | n + 2 => cases hu
  · have e : Ob.lexAt (fun n => decide (([V.int i, .str x])[n]? = ([V.int j, .str y])[n]?)) (ltV2 [.int i, .str x] [.int j, .str y]) (decide (([V.int i, .str x] : List V).length < ([V.int j, .str y] : List V).length)) 0 (min ([V.int i, .str x] : List V).length ([V.int j, .str y] : List V).length) = (if i = j then decide (x.cps.toList < y.cps.toList) else decide (i < j)) := by
      show Ob.lexAt _ _ false 0 2 = _
      rw [Ob.lexAt_succ, Ob.lexAt_succ, Ob.lexAt_zero]
      by_cases h : i = j
      · subst h
        rw [if_pos (by simp), if_pos rfl]
        by_cases h2 : x = y
        · subst h2
          rw [if_pos (by simp), decide_eq_false (List.lt_irrefl _)]
        · rw [if_neg (by simp [h2])]; rfl
      · rw [if_neg (by simp [h]), if_neg h]; rfl
    rw [e]; exact k
theorem z_le (k : Q (.bl (decide (a ≤ b))) H) : uLe (.int a) (.int b) H Q := k
theorem z_leS (k : Q (.bl (!decide (y.cps.toList < x.cps.toList))) H) : uLe (.str x) (.str y) H Q := k
theorem z_gt (k : Q (.bl (decide (b < a))) H) : uGt (.int a) (.int b) H Q := k
theorem z_gtS (k : Q (.bl (decide (y.cps.toList < x.cps.toList))) H) : uGt (.str x) (.str y) H Q := k
theorem z_ge (k : Q (.bl (decide (b ≤ a))) H) : uGe (.int a) (.int b) H Q := k
theorem z_geS (k : Q (.bl (!decide (x.cps.toList < y.cps.toList))) H) : uGe (.str x) (.str y) H Q := k
theorem z_eq (k : Q (.bl (decide (a = b))) H) : uEq K (.int a) (.int b) H Q := k
theorem z_eqS (k : Q (.bl (decide (x = y))) H) : uEq K (.str x) (.str y) H Q := k
theorem z_eqB {a b : Bool} (k : Q (.bl (decide (a = b))) H) : uEq K (.bl a) (.bl b) H Q := k
theorem z_eqN (k : Q (.bl true) H) : uEq K .non .non H Q := k
theorem z_eqIS (k : Q (.bl false) H) : uEq K (.int a) (.str x) H Q := .inl ⟨rfl, by rw [decide_eq_false (by intro z; cases z)]; exact k⟩
theorem z_eqSI (k : Q (.bl false) H) : uEq K (.str x) (.int a) H Q := .inl ⟨rfl, by rw [decide_eq_false (by intro z; cases z)]; exact k⟩
theorem z_ne (k : Q (.bl (!decide (a = b))) H) : uNe K (.int a) (.int b) H Q := k
theorem z_neS (k : Q (.bl (!decide (x = y))) H) : uNe K (.str x) (.str y) H Q := k
theorem z_neB {a b : Bool} (k : Q (.bl (!decide (a = b))) H) : uNe K (.bl a) (.bl b) H Q := k
theorem z_neN (k : Q (.bl false) H) : uNe K .non .non H Q := k
theorem z_neIS (k : Q (.bl true) H) : uNe K (.int a) (.str x) H Q := .inl ⟨rfl, by rw [decide_eq_false (by intro z; cases z)]; exact k⟩
theorem z_neSI (k : Q (.bl true) H) : uNe K (.str x) (.int a) H Q := .inl ⟨rfl, by rw [decide_eq_false (by intro z; cases z)]; exact k⟩
theorem allB_true {xs ys : List V} {e : Nat → Bool} (hl : xs.length = ys.length) (h : ∀ i, i < xs.length → e i = true) : allB xs ys e = true := by
  unfold allB
  rw [← hl, Nat.min_self, beq_self_eq_true, Bool.and_true, List.all_eq_true]
  exact fun i hi => h i (List.mem_range.mp hi)
theorem EqB.self : ∀ {v : V}, (flatV v = true ∨ ∃ a, v = .ref a) → EqB K H 0 v v true := by
  intro v h
  rcases h with h | ⟨a, rfl⟩
  · refine .inl ⟨h, h, ?_⟩
    cases v <;> first | (cases h; done) | (simp [eqV]; done)
  · exact .inr ⟨a, rfl, rfl, rfl⟩
theorem EqB.up {v w : V} {b : Bool} : ∀ {n m : Nat}, n ≤ m → EqB K H n v w b → EqB K H m v w b := by
  intro n m h e
  induction h with
  | refl => exact e
  | step _ ih => exact .inl ih
theorem EqB.sq {n : Nat} {a c : Addr} {xs ys : List V} (hs : sameSq K H a c xs ys) (hl : xs.length = ys.length) (he : ∀ (i : Nat) (x y : V), xs[i]? = some x → ys[i]? = some y → EqB K H n x y true) : EqB K H (n + 1) (.ref a) (.ref c) true :=
  .inr ⟨a, c, xs, ys, fun _ => true, rfl, rfl, hs, he, (allB_true hl fun _ _ => rfl).symm⟩
theorem EqB.str {x y : Str} : EqB K H 0 (.str x) (.str y) (decide (x = y)) := .inl ⟨rfl, rfl, by simp only [eqV]; rw [Bool.eq_iff_iff, decide_eq_true_iff, beq_iff_eq]⟩
theorem EqB.int {x y : Int} : EqB K H 0 (.int x) (.int y) (decide (x = y)) := .inl ⟨rfl, rfl, by simp only [eqV]; rw [Bool.eq_iff_iff, decide_eq_true_iff, beq_iff_eq]⟩
theorem EqB.of {n : Nat} {a c : Addr} {xs ys : List V} {e : Nat → Bool} {b : Bool} (hs : sameSq K H a c xs ys) (he : ∀ (i : Nat) (x y : V), xs[i]? = some x → ys[i]? = some y → EqB K H n x y (e i)) (hb : b = allB xs ys e) : EqB K H (n + 1) (.ref a) (.ref c) b := .inr ⟨a, c, xs, ys, e, rfl, rfl, hs, he, hb⟩
theorem z_is (k : Q (.bl (decide (v = .non))) H) : uIs v .non H Q := by cases v <;> exact k
theorem z_isNot (k : Q (.bl (!decide (v = .non))) H) : uIsNot v .non H Q := by cases v <;> exact k
theorem z_isB {a b : Bool} (k : Q (.bl (decide (a = b))) H) : uIs (.bl a) (.bl b) H Q := k
theorem z_isNotB {a b : Bool} (k : Q (.bl (!decide (a = b))) H) : uIsNot (.bl a) (.bl b) H Q := k
theorem z_in (h : SqL K H p xs ∨ SqT K H p xs) (hx : flatV v = true) (ha : xs.all flatV = true) (k : Q (.bl (inV v xs)) H) : uIn K v (.ref p) H Q := by
  cases v <;> exact ⟨p, xs, rfl, h, hx, ha, k⟩
theorem z_notIn (h : SqL K H p xs ∨ SqT K H p xs) (hx : flatV v = true) (ha : xs.all flatV = true) (k : Q (.bl (!inV v xs)) H) : uNotIn K v (.ref p) H Q := by
  cases v <;> exact ⟨p, xs, rfl, h, hx, ha, k⟩
theorem z_isbb {a : Bool} (k : Q (.bl true) H) : uIsi K [.bl a, .ty "bool"] H Q := ⟨_, _, true, .ty _, .base (.bl a), rfl, k⟩
theorem z_isbi {a : Bool} (k : Q (.bl true) H) : uIsi K [.bl a, .ty "int"] H Q := ⟨_, _, true, .ty _, .base (.bl a), rfl, k⟩
theorem z_isll (h : H p = some (.lst xs)) (k : Q (.bl true) H) : uIsi K [.ref p, .ty "list"] H Q := ⟨_, _, true, .ty _, .base (.lst h), rfl, k⟩
theorem z_istt (h : H p = some (.tup xs)) (k : Q (.bl true) H) : uIsi K [.ref p, .ty "tuple"] H Q := ⟨_, _, true, .ty _, .base (.tup h), rfl, k⟩
theorem z_chain {r r' : R2} {tc : TE} (k : ta σ H fun x H1 => tb σ H1 fun y H2 => r x y H2 fun z H3 => ∃ k, z = .bl k ∧ if k = true then tc σ H3 fun w H4 => r' y w H4 Q else Q (.bl false) H3) : tChain r r' ta tb tc σ H Q := k
-- items, built-ins
theorem z_ix (h : SqL K H p xs ∨ SqT K H p xs) (e : atI xs a = some v) (k : Q v H) : uIx K (.ref p) (.int a) H Q := ⟨xs, v, h, e, k⟩
theorem z_len (h : SqL K H p xs ∨ SqT K H p xs) (k : Q (.int xs.length) H) : uLen K [.ref p] H Q := ⟨xs, h, k⟩
theorem z_int (k : Q (.int a) H) : uInt [.int a] H Q := k
theorem z_max (k : Q (.int (if b > a then b else a)) H) : uMax [.int a, .int b] H Q := k
theorem z_min (k : Q (.int (if b < a then b else a)) H) : uMin [.int a, .int b] H Q := k
theorem z_abs (k : Q (.int (if a < 0 then -a else a)) H) : uAbs [.int a] H Q := k
theorem z_list (h : SqL K H p xs ∨ SqT K H p xs) (k : ∀ l, H l = none → Q (.ref l) (upd H l (.lst xs))) : uList K [.ref p] H Q := ⟨xs, h, k⟩
theorem z_tupleL (h : SqL K H p xs) (k : ∀ l, H l = none → Q (.ref l) (upd H l (.tup xs))) : uTuple K [.ref p] H Q := ⟨xs, .inl ⟨h, k⟩⟩
theorem z_tupleT (h : SqT K H p xs) (k : Q (.ref p) H) : uTuple K [.ref p] H Q := ⟨xs, .inr ⟨h, k⟩⟩
theorem z_isii (k : Q (.bl true) H) : uIsi K [.int a, .ty "int"] H Q := ⟨_, _, true, .ty _, .base (.int a), rfl, k⟩
theorem z_isib (k : Q (.bl false) H) : uIsi K [.int a, .ty "bool"] H Q := ⟨_, _, false, .ty _, .base (.int a), rfl, k⟩
-- statements
theorem z_seq (k : t1 { D with nx := t2 D } σ H) : tSeq t1 t2 D σ H := k
theorem z_next (k : D.nx σ H) : tNext D σ H := k
theorem z_brk (k : D.bk σ H) : tBreak D σ H := k
theorem z_cont (k : D.ct σ H) : tCont D σ H := k
theorem z_ret (k : te σ H D.rt) : tRet te D σ H := k
theorem z_retN (k : D.rt .non H) : tRetN D σ H := k
theorem z_asg (k : te σ H fun x H1 => D.nx (σ.set i (some x)) H1) : tAsg te (gName i) D σ H := k
theorem z_drop (k : te σ H fun _ H1 => D.nx σ H1) : tDrop te D σ H := k
theorem z_ifS (k : c σ H fun b H1 => if b = true then t1 D σ H1 else t2 D σ H1) : tIfS c t1 t2 D σ H := k
theorem z_iteT {A B : Prop} (k : A) : if true = true then A else B := by rw [if_pos rfl]; exact k
theorem z_iteF {A B : Prop} (k : B) : if false = true then A else B := by rw [if_neg Bool.false_ne_true]; exact k
theorem z_iteT' {A B : Prop} (e : bb = true) (k : A) : if bb = true then A else B := by rw [if_pos e]; exact k
theorem z_iteF' {A B : Prop} (e : bb = false) (k : B) : if bb = true then A else B := by rw [if_neg (by rw [e]; exact Bool.false_ne_true)]; exact k
theorem z_itD {A B P : Prop} [Decidable P] (h1 : P → A) (h2 : ¬ P → B) : if decide P = true then A else B := by
  by_cases h : P
  · rw [if_pos (decide_eq_true h)]; exact h1 h
  · rw [if_neg (by rw [decide_eq_false h]; exact Bool.false_ne_true)]; exact h2 h
-- loops
def zRng (g : TG) (tb : TS) (D : Ends) (σ : St) (lo : Int) (n : Nat) (H1 : Hp) : Prop := ∃ W : Nat → Nat → St → Hp → Prop, (∃ m, W 0 m σ H1) ∧ ∀ i m σ H, W i m σ H →
  ((Itr lo n).stop i H ∧ D.nx σ H) ∨ ((Itr lo n).go i H ∧ ∃ N : St → Hp → Prop, (∀ σ' H', N σ' H' → ∃ m', m' < m ∧ W (i + 1) m' σ' H') ∧ ∀ x H', (Itr lo n).yld i H x H' → g x σ H' fun σ2 H2 => tb { D with nx := N, ct := N, bk := D.nx } σ2 H2)
def zRng1 (g : TG) (tb : TS) (D : Ends) (σ : St) (vs : List V) (H1 : Hp) : Prop := ∃ j : Int, vs = [.int j] ∧ -(2 ^ 62) ≤ j ∧ j < 2 ^ 62 ∧ zRng g tb D σ 0 j.toNat H1
def zRng2 (g : TG) (tb : TS) (D : Ends) (σ : St) (vs : List V) (H1 : Hp) : Prop := ∃ i j : Int, vs = [.int i, .int j] ∧ (-(2 ^ 62) ≤ i ∧ i < 2 ^ 62 ∧ -(2 ^ 62) ≤ j ∧ j < 2 ^ 62) ∧ zRng g tb D σ i (j - i).toNat H1
def iSq (K : PySem.W.Frag) (tl : TE) : TI := fun σ H R => tl σ H fun x H1 => ∃ a, x = .ref a ∧ (((∃ xs, SqL K H1 a xs) ∧ R (Itl K a) H1) ∨ ((∃ xs, SqT K H1 a xs) ∧ R (Itt K a) H1))
variable {g : TG} {ti : TS}
theorem z_for1 (k : t σ H fun vs H1 => zRng1 g ti D σ vs H1) : tFor (iRng1 t) g ti D σ H := k
theorem z_for2 (k : t σ H fun vs H1 => zRng2 g ti D σ vs H1) : tFor (iRng2 t) g ti D σ H := k
theorem mul1 (h : -1000000000000000000 < a ∧ a < 1000000000000000000) : MulOk a b := .inl (.inl (by omega))
theorem mul2 (h : -1000000000000000000 < b ∧ b < 1000000000000000000) : MulOk a b := .inl (.inr (by omega))
theorem div1 (h : 0 < b ∧ b < 1000000000000000000) : CDivW a b := wide_div h.1 (b := 64) (by omega) (by decide) (by decide)
end
theorem lk_ne {H : Hp} {a b : Addr} {o u : HO} (h : a ≠ b) (e : H a = some u) : upd H b o a = some u := by rw [upd_ne h]; exact e
theorem ne_n {H : Hp} {a b : Addr} {o : HO} (h' : H b = none) (h : H a = some o) : a ≠ b := ne_of_none h h'
theorem sqL_new {K : PySem.W.Frag} {H : Hp} {a b : Addr} {o : HO} {xs : List V} (h : H b = none) (e : SqL K H a xs) : SqL K (upd H b o) a xs := by
  rcases e with (e | ⟨u, e⟩) | e
  · exact .inl (.inl (lk_ne (ne_of_none e h) e))
  · exact .inl (.inr ⟨u, lk_ne (ne_of_none e h) e⟩)
  · exact .inr e
theorem sqT_new {K : PySem.W.Frag} {H : Hp} {a b : Addr} {o : HO} {xs : List V} (h : H b = none) (e : SqT K H a xs) : SqT K (upd H b o) a xs := by
  rcases e with (e | ⟨u, e⟩) | e
  · exact .inl (.inl (lk_ne (ne_of_none e h) e))
  · exact .inl (.inr ⟨u, lk_ne (ne_of_none e h) e⟩)
  · exact .inr e
theorem sqL_ne {K : PySem.W.Frag} {H : Hp} {a b : Addr} {o : HO} {xs : List V} (h : a ≠ b) (e : SqL K H a xs) : SqL K (upd H b o) a xs := by
  rcases e with (e | ⟨u, e⟩) | e
  · exact .inl (.inl (lk_ne h e))
  · exact .inl (.inr ⟨u, lk_ne h e⟩)
  · exact .inr e
theorem sqT_ne {K : PySem.W.Frag} {H : Hp} {a b : Addr} {o : HO} {xs : List V} (h : a ≠ b) (e : SqT K H a xs) : SqT K (upd H b o) a xs := by
  rcases e with (e | ⟨u, e⟩) | e
  · exact .inl (.inl (lk_ne h e))
  · exact .inl (.inr ⟨u, lk_ne h e⟩)
  · exact .inr e
def NotSt (o : HO) : Prop := ∀ (L : Addr) (k a : Int), o ≠ .lst [.ref L, .int k, .int a]
theorem NotSt.ints {ns : List Int} : NotSt (.lst (ns.map V.int)) := fun L k a z => by
  cases ns with
  | nil => cases z
  | cons x r => injection z with z; injection z with z1 _; cases z1
theorem NotSt.refs {ps : List Addr} : NotSt (.lst (ps.map V.ref)) := fun L k a z => by
  cases ps with
  | nil => cases z
  | cons x r => cases r with
    | nil => cases z
    | cons y t => injection z with z; injection z with _ z; injection z with z _; cases z
theorem NotSt.strs {xs : List Str} : NotSt (.lst (xs.map V.str)) := fun L k a z => by
  cases xs with
  | nil => cases z
  | cons x r => injection z with z; injection z with z1 _; cases z1
def ExD (H H' : Hp) : Prop := ∀ a o, NotSt o → H a = some o → H' a = some o
theorem ExD.lk {a : Addr} {H H' : Hp} {o : HO} (x : ExD H H') (e : H a = some o) (h : NotSt o) : H' a = some o := x a o h e
theorem ExD.refl (H : Hp) : ExD H H := fun _ _ _ e => e
theorem ExD.trans {H H1 H2 : Hp} (x : ExD H H1) (y : ExD H1 H2) : ExD H H2 := fun a o h e => y a o h (x a o h e)
theorem ExD.new {p : Addr} {H H1 : Hp} {o : HO} (h : H p = none) (x : ExD H H1) : ExD H (upd H1 p o) := fun a u ha e => lk_ne (ne_of_none e h) (x a u ha e)
theorem ExD.of {H H' : Hp} (x : Same H H') : ExD H H' := fun a o _ e => x a o e
theorem ExD.st {st L : Addr} {k a : Int} {H H1 : Hp} {o : HO} (e : H st = some (.lst [.ref L, .int k, .int a])) (x : ExD H H1) : ExD H (upd H1 st o) := fun b u hb f => by
  refine lk_ne (fun z => ?_) (x b u hb f)
  subst z; rw [e] at f; exact hb L k a (Option.some.inj f).symm
theorem Same.lk {a : Addr} {H H' : Hp} {o : HO} (x : Same H H') (e : H a = some o) : H' a = some o := x a o e
theorem lk_new {H : Hp} {a b : Addr} {o u : HO} (h : H b = none) (e : H a = some u) : upd H b o a = some u := lk_ne (ne_of_none e h) e
theorem lk_df {H : Hp} {a b : Addr} {o u w : HO} (e : H a = some u) (f : H b = some w) (d : u ≠ w) : upd H b o a = some u := lk_ne (fun z => by subst z; rw [e] at f; exact d (Option.some.inj f)) e

section
variable {K : PySem.W.Frag} {σ : St} {H : Hp} {Q : VK} {te ta tb : TE} {t u : TS} {D : Ends} {p : Addr} {xs : List V} {a : Int} {v : V} {j : Nat}
theorem z_cut (M : St → Hp → Prop) (k : t { D with nx := M } σ H) (h : ∀ σ' H', M σ' H' → u D σ' H') : tCut t u D σ H := ⟨M, k, h⟩
theorem z_asgS (k : te σ H fun x H1 => ta σ H1 fun o H2 => tb σ H2 fun i H3 => rSetL o i x H3 fun H4 => D.nx σ H4) : tAsg te (gSub ta tb rSetL) D σ H := k
theorem z_setL {Q : Hp → Prop} (h : H p = some (.lst xs)) (e : ixN xs.length a = some j) (k : Q (upd H p (.lst (xs.set j v)))) : rSetL (.ref p) (.int a) v H Q := ⟨p, xs, a, j, rfl, rfl, h, e, k⟩
theorem tyL (h : H p = some (.lst xs)) : tyV K "list" (.ref p) H := Or.inl ⟨rfl, _, Or.inl (Or.inl h)⟩
theorem z_bm {T : String} {r : V → List V → Hp → VK → Prop} {to : TE} {t : TA} (k : to σ H fun x H1 => tyV K T x H1 ∧ t σ H1 fun xs H2 => r x xs H2 Q) : tBM K T r to t σ H Q := k
theorem upd_self {H : Hp} {a : Addr} {o : HO} (h : H a = some o) : upd H a o = H := by
  funext b; unfold upd; split
  · rename_i e; subst e; exact h.symm
  · rfl
theorem ix_at {α : Type} {xs : List α} {i : Int} (h0 : 0 ≤ i) (h1 : i < xs.length) : ixN xs.length i = some i.toNat := by
  unfold ixN; rw [if_pos h0, if_pos h1]
theorem at_int {ns : List Int} {i : Int} (h0 : 0 ≤ i) (h1 : i < ns.length) : atI (ns.map V.int) i = some (.int (ns.getD i.toNat 0)) := by
  unfold atI
  rw [ix_at h0 (by simpa using h1)]
  have : i.toNat < ns.length := by omega
  simp [List.getD, this]
end
def Wd (T : TS) (N : List Str) (n : Nat) (sp : Sp) : Prop := ∀ (vs : List V) (H : Hp) (Q : VK) (E : XK), sp vs H Q E → vs.length = n ∧ T { nx := fun _ H' => Q .non H', rt := Q } (start N vs) H

def zLcR (g : TG) (tt : TT) (te : TE) (vs : List Nat) (σ : St) (lo : Int) (n : Nat) (H1 : Hp) (Q : VK) : Prop := ∀ D, H1 D = none → ∃ W : Nat → Nat → Hp → Prop, (∃ m, W 0 m (upd H1 D (.lst []))) ∧ ∀ i m H, W i m H →
  ((Itr lo n).stop i H ∧ Q (.ref D) H) ∨ ((Itr lo n).go i H ∧ ∃ Nx : Hp → Prop, (∀ H', Nx H' → ∃ m', m' < m ∧ W (i + 1) m' H') ∧ ∀ x H', (Itr lo n).yld i H x H' → g x (wipe σ vs) H' fun σ2 H2 => wipe σ2 vs = wipe σ vs ∧ tt σ2 H2 fun b H3 =>
    if b = true then te σ2 H3 fun y H4 => ∃ acc, H4 D = some (.lst acc) ∧ acc.length < sizeLine ∧ Nx (upd H4 D (.lst (acc ++ [y]))) else Nx H3)
def zLcR1 (g : TG) (tt : TT) (te : TE) (vs : List Nat) (σ : St) (as : List V) (H1 : Hp) (Q : VK) : Prop := ∃ j : Int, as = [.int j] ∧ -(2 ^ 62) ≤ j ∧ j < 2 ^ 62 ∧ zLcR g tt te vs σ 0 j.toNat H1 Q
def zLcL (K : PySem.W.Frag) (g : TG) (tt : TT) (te : TE) (vs : List Nat) (σ : St) (a : Addr) (H1 : Hp) (Q : VK) : Prop := ∀ D, H1 D = none → ∃ W : Nat → Nat → Hp → Prop, (∃ m, W 0 m (upd H1 D (.lst []))) ∧ ∀ i m H, W i m H →
  ((Itl K a).stop i H ∧ Q (.ref D) H) ∨ ((Itl K a).go i H ∧ ∃ Nx : Hp → Prop, (∀ H', Nx H' → ∃ m', m' < m ∧ W (i + 1) m' H') ∧ ∀ x H', (Itl K a).yld i H x H' → g x (wipe σ vs) H' fun σ2 H2 => wipe σ2 vs = wipe σ vs ∧ tt σ2 H2 fun b H3 =>
    if b = true then te σ2 H3 fun y H4 => ∃ acc, H4 D = some (.lst acc) ∧ acc.length < sizeLine ∧ Nx (upd H4 D (.lst (acc ++ [y]))) else Nx H3)
def zLcT (K : PySem.W.Frag) (g : TG) (tt : TT) (te : TE) (vs : List Nat) (σ : St) (a : Addr) (H1 : Hp) (Q : VK) : Prop := ∀ D, H1 D = none → ∃ W : Nat → Nat → Hp → Prop, (∃ m, W 0 m (upd H1 D (.lst []))) ∧ ∀ i m H, W i m H →
  ((Itt K a).stop i H ∧ Q (.ref D) H) ∨ ((Itt K a).go i H ∧ ∃ Nx : Hp → Prop, (∀ H', Nx H' → ∃ m', m' < m ∧ W (i + 1) m' H') ∧ ∀ x H', (Itt K a).yld i H x H' → g x (wipe σ vs) H' fun σ2 H2 => wipe σ2 vs = wipe σ vs ∧ tt σ2 H2 fun b H3 =>
    if b = true then te σ2 H3 fun y H4 => ∃ acc, H4 D = some (.lst acc) ∧ acc.length < sizeLine ∧ Nx (upd H4 D (.lst (acc ++ [y]))) else Nx H3)
def zLcS (K : PySem.W.Frag) (g : TG) (tt : TT) (te : TE) (vs : List Nat) (σ : St) (x : V) (H1 : Hp) (Q : VK) : Prop := ∃ a, x = .ref a ∧ (((∃ xs, SqL K H1 a xs) ∧ zLcL K g tt te vs σ a H1 Q) ∨ ((∃ xs, SqT K H1 a xs) ∧ zLcT K g tt te vs σ a H1 Q))
def zForS (K : PySem.W.Frag) (g : TG) (tb : TS) (D : Ends) (σ : St) (x : V) (H1 : Hp) : Prop := ∃ a, x = .ref a ∧ (((∃ xs, SqL K H1 a xs) ∧ ∃ W : Nat → Nat → St → Hp → Prop, (∃ m, W 0 m σ H1) ∧ ∀ i m σ H, W i m σ H →
  ((Itl K a).stop i H ∧ D.nx σ H) ∨ ((Itl K a).go i H ∧ ∃ N : St → Hp → Prop, (∀ σ' H', N σ' H' → ∃ m', m' < m ∧ W (i + 1) m' σ' H') ∧ ∀ x H', (Itl K a).yld i H x H' → g x σ H' fun σ2 H2 => tb { D with nx := N, ct := N, bk := D.nx } σ2 H2)) ∨
  ((∃ xs, SqT K H1 a xs) ∧ ∃ W : Nat → Nat → St → Hp → Prop, (∃ m, W 0 m σ H1) ∧ ∀ i m σ H, W i m σ H →
  ((Itt K a).stop i H ∧ D.nx σ H) ∨ ((Itt K a).go i H ∧ ∃ N : St → Hp → Prop, (∀ σ' H', N σ' H' → ∃ m', m' < m ∧ W (i + 1) m' σ' H') ∧ ∀ x H', (Itt K a).yld i H x H' → g x σ H' fun σ2 H2 => tb { D with nx := N, ct := N, bk := D.nx } σ2 H2)))

section
open PyProof.Rows
theorem pi_sq {X : Cx} {tg l : Expr} {tl : TE} (hl : PE X l tl) : PI X tg l (iSq X.K tl) := by
  refine ⟨fun pins s σ H R I h => ?_⟩
  refine thn (hl.run pins s σ H _ I h) fun v s1 ⟨x, H1, I1, r1, q1⟩ => ?_
  obtain ⟨a, e, q1⟩ := q1
  subst e
  cases r1
  rcases q1 with ⟨⟨xs, hq⟩, q⟩ | ⟨⟨xs, hq⟩, q⟩
  · obtain ⟨its, rv, p, hz⟩ := I1.list hq
    refine wpAny_pyIter_list p.isList ?_
    refine ⟨s1.heap.objs.size, [s1.heap.objs.size], _, _, H1, rfl, I1.kept (t' := s1.toks) fun b o e => Heap.get?_push_of_some _ e, turn_list a _, ⟨_, Heap.get?_push_size _ rfl, rfl, rfl⟩, fun b hb => ?_, q⟩
    have e : b = s1.heap.objs.size := by simpa using hb
    subst e
    exact I1.fpOk (Nat.le_refl _) (I1.hok.fresh (Nat.le_refl _))
  · obtain ⟨its, rv, p, hz⟩ := I1.tuple hq
    refine wpAny_pyIter_tuple (show s1.heap.IsTuple a its.toArray from p) ?_
    refine ⟨s1.heap.objs.size, [s1.heap.objs.size], _, _, H1, rfl, I1.kept (t' := s1.toks) fun b o e => Heap.get?_push_of_some _ e, turn_tuple a _, ⟨_, Heap.get?_push_size _ rfl, rfl, rfl⟩, fun b hb => ?_, q⟩
    have e : b = s1.heap.objs.size := by simpa using hb
    subst e
    exact I1.fpOk (Nat.le_refl _) (I1.hok.fresh (Nat.le_refl _))
end
section
variable {K : PySem.W.Frag} {σ : L2.St} {H : Hp} {Q : VK} {D : Ends} {tt : TT} {te tl : TE} {ta : TA} {vs : List Nat} {g : TG} {tb : TS} {a : Addr} {xs : List V}
theorem z_forSq (k : tl σ H fun x H1 => zForS K g tb D σ x H1) : tFor (iSq K tl) g tb D σ H := k
theorem z_lcSq (k : tl σ H fun x H1 => zLcS K g tt te vs σ x H1 Q) : tLc (iSq K tl) g tt te vs σ H Q := k
theorem z_lc1 (k : ta σ H fun as H1 => zLcR1 g tt te vs σ as H1 Q) : tLc (iRng1 ta) g tt te vs σ H Q := k
theorem z_yes {QB : Bool → Hp → Prop} (k : QB true H) : tYes σ H QB := k
theorem z_gName {v : V} {i : Nat} {P : L2.St → Hp → Prop} (k : P (σ.set i (some v)) H) : gName i v σ H P := k
end
def zZip (K : PySem.W.Frag) (g : TG) (tb : TS) (D : Ends) (σ : L2.St) (vs : List V) (H1 : Hp) : Prop := ∃ a b xs ys, vs = [.ref a, .ref b] ∧ ((SqL K H1 a xs ∧ SqL K H1 b ys ∧ ∃ W : Nat → Nat → L2.St → Hp → Prop, (∃ m, W 0 m σ H1) ∧ ∀ i m σ H, W i m σ H →
  ((Itz K a b).stop i H ∧ D.nx σ H) ∨ ((Itz K a b).go i H ∧ ∃ N : L2.St → Hp → Prop, (∀ σ' H', N σ' H' → ∃ m', m' < m ∧ W (i + 1) m' σ' H') ∧ ∀ x H', (Itz K a b).yld i H x H' → g x σ H' fun σ2 H2 => tb { D with nx := N, ct := N, bk := D.nx } σ2 H2)) ∨
  (SqT K H1 a xs ∧ SqT K H1 b ys ∧ ∃ W : Nat → Nat → L2.St → Hp → Prop, (∃ m, W 0 m σ H1) ∧ ∀ i m σ H, W i m σ H →
  ((RZ.ItzT K a b).stop i H ∧ D.nx σ H) ∨ ((RZ.ItzT K a b).go i H ∧ ∃ N : L2.St → Hp → Prop, (∀ σ' H', N σ' H' → ∃ m', m' < m ∧ W (i + 1) m' σ' H') ∧ ∀ x H', (RZ.ItzT K a b).yld i H x H' → g x σ H' fun σ2 H2 => tb { D with nx := N, ct := N, bk := D.nx } σ2 H2)))
theorem Same.sqT {K : PySem.W.Frag} {H H' : Hp} {a : Addr} {xs : List V} (e : Same H H') (h : SqT K H a xs) : SqT K H' a xs := by
  rcases h with (h | ⟨o, h⟩) | h
  · exact .inl (.inl (e _ _ h))
  · exact .inl (.inr ⟨o, e _ _ h⟩)
  · exact .inr h
theorem Same.new {H H' : Hp} {p : Addr} {o : HO} (h : H' p = none) (e : Same H H') : Same H (upd H' p o) := fun b u q => lk_ne (ne_of_none (e b u q) h) (e b u q)
section
variable {K : PySem.W.Frag} {σ : L2.St} {H : Hp} {D : Ends} {ta : TA} {g : TG} {tb : TS} {a b : Addr} {xs ys : List V}
theorem z_forZ (k : ta σ H fun vs H1 => zZip K g tb D σ vs H1) : tFor (RZ.iZipA K ta) g tb D σ H := k
end
def zEnum (K : PySem.W.Frag) (g : TG) (tb : TS) (D : Ends) (σ : L2.St) (vs : List V) (H1 : Hp) : Prop := ∃ a xs, vs = [.ref a] ∧ SqL K H1 a xs ∧ ∃ W : Nat → Nat → L2.St → Hp → Prop, (∃ m, W 0 m σ H1) ∧ ∀ i m σ H, W i m σ H →
  ((Ite K a).stop i H ∧ D.nx σ H) ∨ ((Ite K a).go i H ∧ ∃ N : L2.St → Hp → Prop, (∀ σ' H', N σ' H' → ∃ m', m' < m ∧ W (i + 1) m' σ' H') ∧ ∀ x H', (Ite K a).yld i H x H' → g x σ H' fun σ2 H2 => tb { D with nx := N, ct := N, bk := D.nx } σ2 H2)
def zLcE (K : PySem.W.Frag) (g : TG) (tt : TT) (te : TE) (vs : List Nat) (σ : L2.St) (as : List V) (H1 : Hp) (Q : VK) : Prop := ∃ a xs, as = [.ref a] ∧ SqL K H1 a xs ∧ ∀ D, H1 D = none → ∃ W : Nat → Nat → Hp → Prop, (∃ m, W 0 m (upd H1 D (.lst []))) ∧ ∀ i m H, W i m H →
  ((Ite K a).stop i H ∧ Q (.ref D) H) ∨ ((Ite K a).go i H ∧ ∃ Nx : Hp → Prop, (∀ H', Nx H' → ∃ m', m' < m ∧ W (i + 1) m' H') ∧ ∀ x H', (Ite K a).yld i H x H' → g x (wipe σ vs) H' fun σ2 H2 => wipe σ2 vs = wipe σ vs ∧ tt σ2 H2 fun b H3 =>
    if b = true then te σ2 H3 fun y H4 => ∃ acc, H4 D = some (.lst acc) ∧ acc.length < sizeLine ∧ Nx (upd H4 D (.lst (acc ++ [y]))) else Nx H3)
section
variable {K : PySem.W.Frag} {σ : L2.St} {H : Hp} {D : Ends} {ta : TA} {g : TG} {tb : TS} {a : Addr} {xs : List V} {tt : TT} {te : TE} {vs : List Nat} {Q : VK}
theorem z_forE (k : ta σ H fun vs H1 => zEnum K g tb D σ vs H1) : tFor (iEnum K ta) g tb D σ H := k
theorem z_lcE (k : ta σ H fun as H1 => zLcE K g tt te vs σ as H1 Q) : tLc (iEnum K ta) g tt te vs σ H Q := k
end
def zFld (K : PySem.W.Frag) (f : Str) (x : V) (H : Hp) (Q : VK) : Prop := ∃ a C dx fs v, x = .ref a ∧ H a = some (.ins C dx fs) ∧ Cls K C ∧ NoAttr K C f ∧ fs.lookup f = some v ∧ Q v H
def zSet (K : PySem.W.Frag) (f : Str) (y x : V) (H : Hp) (N : Hp → Prop) : Prop := ∃ a C dx fs, x = .ref a ∧ H a = some (.ins C dx fs) ∧ Cls K C ∧ NoAttr K C f ∧ fs.length < 1000 ∧ N (upd H a (.ins C dx (putF f y fs)))
theorem z_fldt {K : PySem.W.Frag} {σ : L2.St} {H : Hp} {ta : TE} {f : Str} {Q : VK} (k : ta σ H fun x H1 => zFld K f x H1 Q) : tFld K ta f σ H Q := k
theorem z_sett {K : PySem.W.Frag} {σ : L2.St} {H : Hp} {ta tv : TE} {f : Str} {D : Ends} (k : tv σ H fun y H1 => ta σ H1 fun x H2 => zSet K f y x H2 fun H3 => D.nx σ H3) : sFld K ta tv f D σ H := k
def uSl (K : PySem.W.Frag) : V → Option Int → Option Int → Hp → VK → Prop := fun x lo hi H Q => match x with
  | .ref a => rSlL K (.ref a) lo hi H Q ∨ rSlA K (.ref a) lo hi H Q
  | .str z => z.length ≤ sizeLine ∧ Q (.str (cutS z lo hi)) H
  | _ => False
section
variable {K : PySem.W.Frag} {σ : L2.St} {H : Hp} {Q : VK} {te : TE} {tl th : TO} {p : Addr} {xs : List V} {lo hi : Option Int} {QO : Option Int → Hp → Prop}
theorem z_sl {r : V → Option Int → Option Int → Hp → VK → Prop} (k : te σ H fun x H1 => tl σ H1 fun l H2 => th σ H2 fun u H3 => r x l u H3 Q) : tSl r te tl th σ H Q := k
theorem z_part (k : te σ H fun x H1 => ∃ i, x = .int i ∧ QO (some i) H1) : tPart te σ H QO := k
theorem z_noPart (k : QO none H) : tNoPart σ H QO := k
theorem z_parti {P : Int → Prop} {a : Int} (k : P a) : ∃ i, V.int a = .int i ∧ P i := ⟨a, rfl, k⟩
theorem z_slL (h : SqL K H p xs) (k : ∀ l, H l = none → Q (.ref l) (upd H l (.lst (cutV xs lo hi)))) : uSl K (.ref p) lo hi H Q := .inl ⟨p, xs, rfl, h, k⟩
end
def zLcZ (K : PySem.W.Frag) (g : TG) (tt : TT) (te : TE) (vs : List Nat) (σ : L2.St) (as : List V) (H1 : Hp) (Q : VK) : Prop := ∃ a b xs ys, as = [.ref a, .ref b] ∧ ((SqL K H1 a xs ∧ SqL K H1 b ys ∧ ∀ D, H1 D = none → ∃ W : Nat → Nat → Hp → Prop, (∃ m, W 0 m (upd H1 D (.lst []))) ∧ ∀ i m H, W i m H →
  ((Itz K a b).stop i H ∧ Q (.ref D) H) ∨ ((Itz K a b).go i H ∧ ∃ Nx : Hp → Prop, (∀ H', Nx H' → ∃ m', m' < m ∧ W (i + 1) m' H') ∧ ∀ x H', (Itz K a b).yld i H x H' → g x (wipe σ vs) H' fun σ2 H2 => wipe σ2 vs = wipe σ vs ∧ tt σ2 H2 fun b H3 =>
    if b = true then te σ2 H3 fun y H4 => ∃ acc, H4 D = some (.lst acc) ∧ acc.length < sizeLine ∧ Nx (upd H4 D (.lst (acc ++ [y]))) else Nx H3)) ∨
  (SqT K H1 a xs ∧ SqT K H1 b ys ∧ ∀ D, H1 D = none → ∃ W : Nat → Nat → Hp → Prop, (∃ m, W 0 m (upd H1 D (.lst []))) ∧ ∀ i m H, W i m H →
  ((RZ.ItzT K a b).stop i H ∧ Q (.ref D) H) ∨ ((RZ.ItzT K a b).go i H ∧ ∃ Nx : Hp → Prop, (∀ H', Nx H' → ∃ m', m' < m ∧ W (i + 1) m' H') ∧ ∀ x H', (RZ.ItzT K a b).yld i H x H' → g x (wipe σ vs) H' fun σ2 H2 => wipe σ2 vs = wipe σ vs ∧ tt σ2 H2 fun b H3 =>
    if b = true then te σ2 H3 fun y H4 => ∃ acc, H4 D = some (.lst acc) ∧ acc.length < sizeLine ∧ Nx (upd H4 D (.lst (acc ++ [y]))) else Nx H3)))
section
variable {K : PySem.W.Frag} {σ : L2.St} {H : Hp} {ta : TA} {g : TG} {a b : Addr} {xs ys : List V} {tt : TT} {te : TE} {vs : List Nat} {Q : VK}
theorem z_lcZ (k : ta σ H fun as H1 => zLcZ K g tt te vs σ as H1 Q) : tLc (RZ.iZipA K ta) g tt te vs σ H Q := k
end
theorem z_gint {X : Cx} {x : Str} {i : Int} {pos : Pos} (hm : ∃ t, X.mg x = some (.int i t)) (hg : Gl X x) (hd : (x == ("__debug__" : Str)) = false := by decide) : PE X (.Name x pos) (tC (.int i)) := by
  obtain ⟨t, hm⟩ := hm
  exact pe_glob hg hm ⟨t, rfl⟩ hd
local macro_rules | `(tactic| walk_at "ne") => `(tactic| with_reducible first | assumption | exact Ne.symm (by assumption) | exact ne_n (by assumption) (by assumption) | exact Ne.symm (ne_n (by assumption) (by assumption)))
local macro_rules | `(tactic| walk_at "df") => `(tactic| (intro zz; cases zz; done))
local macro_rules | `(tactic| walk_at "ns") => `(tactic| first | exact NotSt.ints | exact NotSt.refs | exact NotSt.strs | (intro _ _ _ zz; cases zz; done))
local macro_rules | `(tactic| walk_at "lk") => `(tactic| with_reducible first | assumption | ((show upd _ _ _ _ = _); first | exact upd_same | exact lk_new (by assumption) (by walk_at "lk") | ((fail_if_success refine lk_new (by assumption) ?_); first | exact lk_ne (by walk_at "ne") (by walk_at "lk") | exact lk_df (by walk_at "lk") (by walk_at "lk") (by with_unfolding_all walk_at "df"))) | exact ExD.lk (by assumption) (by walk_at "lk") (by with_unfolding_all walk_at "ns") | exact Same.lk (by assumption) (by walk_at "lk"))
local macro_rules | `(tactic| walk_at "sqL") => `(tactic| with_reducible first | assumption | exact SqL.of (by walk_at "lk") | ((show SqL _ (upd _ _ _) _ _); first | exact sqL_new (by assumption) (by walk_at "sqL") | exact sqL_ne (by walk_at "ne") (by walk_at "sqL")) | exact Same.seq (by assumption) (by walk_at "sqL"))
local macro_rules | `(tactic| walk_at "sqT") => `(tactic| with_reducible first | assumption | exact SqT.of (by walk_at "lk") | ((show SqT _ (upd _ _ _) _ _); first | exact sqT_new (by assumption) (by walk_at "sqT") | exact sqT_ne (by walk_at "ne") (by walk_at "sqT")))
local macro_rules | `(tactic| walk_at "sq") => `(tactic| first | exact Or.inl (by walk_at "sqL") | exact Or.inr (by walk_at "sqT"))
local macro_rules | `(tactic| walk_at "mulok") => `(tactic| first | exact mul1 (by omega) | exact mul2 (by omega))
local macro_rules | `(tactic| walk_at "few") => `(tactic| (simp only [List.length_cons, List.length_nil]; with_unfolding_all decide))
local macro_rules | `(tactic| walk_at "zo") => `(tactic| (with_reducible first
  | refine z_add ?_ | refine z_sub ?_ | refine z_lt ?_ | refine z_le ?_ | refine z_gt ?_ | refine z_ge ?_ | refine z_eq ?_ | refine z_ne ?_ | refine z_neg ?_ | refine z_int ?_ | refine z_max ?_ | refine z_min ?_ | refine z_abs ?_
  | refine z_eqS ?_ | refine z_neS ?_ | refine z_eqIS ?_ | refine z_eqSI ?_ | refine z_neIS ?_ | refine z_neSI ?_ | refine z_eqB ?_ | refine z_neB ?_ | refine z_eqN ?_ | refine z_neN ?_ | refine z_is ?_ | refine z_isNot ?_ | refine z_isB ?_ | refine z_isNotB ?_ | refine z_isbb ?_ | refine z_isbi ?_
  | refine z_ltS ?_ | refine z_leS ?_ | refine z_gtS ?_ | refine z_geS ?_ | refine z_isii ?_ | refine z_isib ?_))
local macro_rules | `(tactic| walk_at "zp") => `(tactic| with_reducible first
  | ((show uMul _ _ _ _); refine z_mul (by walk_at "mulok") ?_)
  | ((show uDiv _ _ _ _); refine z_div (by exact div1 (by omega)) ?_)
  | ((show uMod _ _ _ _); refine z_mod (by omega) ?_)
  | ((show uPow _ _ _ _); refine z_pow (by with_unfolding_all exact ⟨by decide, by decide, by decide⟩) ?_; (simp only [Int.reduceToNat, Int.reducePow]))
  | ((show uIx _ _ _ _ _); refine z_ix (by walk_at "sq") (by first | with_unfolding_all rfl | assumption) ?_)
  | ((show uLen _ _ _ _); refine z_len (by walk_at "sq") ?_)
  | ((show uList _ _ _ _); refine z_list (by walk_at "sq") ?_; intro _ _)
  | ((show uSl _ (V.ref _) _ _ _ _); refine z_slL (by walk_at "sqL") ?_; intro _ _)
  | ((show rSetL _ _ _ _ _); refine z_setL (by walk_at "lk") (by with_unfolding_all rfl) ?_)
  | ((show tyV _ "list" _ _ ∧ _); refine ⟨tyL (by walk_at "lk"), ?_⟩)
  | ((show uIsi _ [_, V.ty "list"] _ _); refine z_isll (by walk_at "lk") ?_)
  | ((show uIsi _ [_, V.ty "tuple"] _ _); refine z_istt (by walk_at "lk") ?_)
  | ((show zNewL _ _ _); refine z_newL (by walk_at "few") ?_; intro _ _)
  | ((show zNewT _ _ _); refine z_newT (by walk_at "few") ?_; intro _ _))
local macro_rules | `(tactic| walk_at "ze") => `(tactic| (with_reducible first
  | ((show tVar _ _ _ _); refine z_var (by with_unfolding_all rfl) ?_) | refine z_c ?_ | refine z_op ?_ | refine z_cons ?_ | refine z_nil ?_ | refine z_cal ?_ | refine z_cb ?_ | refine z_test ?_ | refine z_bl ?_ | refine z_un ?_
  | refine z_tru ?_ | refine z_trub ?_ | refine z_trui ?_ | refine z_and ?_ | refine z_or ?_ | refine z_not ?_ | refine z_andV ?_ | refine z_orV ?_ | refine z_notV ?_ | refine z_bl1 ?_ | refine z_if ?_ | refine z_lst ?_ | refine z_tup ?_ | refine z_chain ?_))
local macro_rules | `(tactic| walk_at "zs") => `(tactic| (with_reducible first
  | refine z_seq ?_ | refine z_asg ?_ | refine z_ifS ?_ | refine z_ret ?_ | refine z_drop ?_ | refine z_next ?_ | refine z_brk ?_ | refine z_cont ?_ | refine z_retN ?_ | refine z_iteT ?_ | refine z_iteF ?_ | refine z_for1 ?_ | refine z_for2 ?_ | refine z_asgS ?_ | refine z_bm ?_ | refine z_forSq ?_ | refine z_forZ ?_ | refine z_forE ?_ | refine z_lcE ?_ | refine z_lcZ ?_ | refine z_fldt ?_ | refine z_sett ?_ | refine z_lcSq ?_ | refine z_lc1 ?_ | refine z_yes ?_ | refine z_gName ?_ | refine z_sl ?_ | refine z_part ?_ | refine z_noPart ?_ | refine z_parti ?_))
local macro_rules | `(tactic| walk_at "z") => `(tactic| first | walk_at "ze" | walk_at "zo" | walk_at "zs" | walk_at "zp" | (dsimp only [List.set]))
local macro_rules | `(tactic| walk_at "zz") => `(tactic| repeat (walk_at "z"))
local macro_rules | `(tactic| walk_at "zd") => `(tactic| ((with_reducible show ite _ _ _); first | refine z_iteT' (by decide +kernel) ?_ | refine z_iteF' (by decide +kernel) ?_))
local macro_rules | `(tactic| walk_at "zx") => `(tactic| repeat (first | walk_at "z" | walk_at "zd"))

structure CEnv where
  cls : Str → Addr
  has : Str → Prop
  all : Str → Prop
  tb : List (Addr × Str)
def SUBE : List (Str × Str) := [("InvalidSchema", "SurenearError"), ("InvalidRecord", "SurenearError"), ("InvalidKey", "SurenearError"), ("InvalidFilter", "SurenearError"), ("InvalidQuery", "SurenearError"), ("InvalidRule", "SurenearError"), ("InvalidCode", "SurenearError")]
def SUBE2 : List (Str × Str) := [("InvalidOperation", "SurenearError"), ("InvalidSource", "SurenearError"), ("NoSuchMoment", "SurenearError"), ("NotPinned", "SurenearError"), ("NoSuchQuery", "SurenearError"), ("NotNow", "SurenearError"), ("NotUp", "SurenearError")]
def SUBP : List (Str × Str) := [("Norms", "Fact"), ("Parts", "Fact"), ("Cell", "Fact"), ("Box", "Fact"), ("Differ", "Fact"), ("Counts", "Fact"), ("Names", "Fact"), ("Range", "FieldFact"), ("Values", "FieldFact"), ("Range", "Fact"), ("Values", "Fact"), ("FieldFact", "Fact"),
  ("Every", "Condition"), ("Has", "Condition"), ("Compare", "Condition"), ("OneOf", "Condition"), ("Both", "Condition"), ("Either", "Condition"), ("Negation", "Condition")]
def SUB (x y : Str) : Bool := x == y || SUBP.contains (x, y) || SUBE.contains (x, y) || SUBE2.contains (x, y)
structure ClsOk (K : PySem.W.Frag) (c : CEnv) (x : Str) (gs : List Str) : Prop where
  cl : Cls K (c.cls x)
  na : ∀ f, gs.contains f = true → NoAttr K (c.cls x) f
  ha : PySem.W.findIn K (.ref (c.cls x)) "__class__" = some (some (.builtin "object.__class__"))
  hn : PySem.W.specialIn K (.builtin "object.__class__") "__get__" = some (some (.builtin "getset_descriptor.__get__"))
  htk : PySem.W.takesIn K (.builtin "object.__class__") = some true
  hm : PySem.W.mroIn K (c.cls x) (.type "object") = some true
  sub : ∀ y, c.has y → PySem.W.kitOne K (.ref (c.cls x)) (.ref (c.cls y)) = some (SUB x y)
  sb : ∀ y, c.has y → PySem.W.subIn K (.ref (c.cls x)) (.ref (c.cls y)) = some (SUB x y)
  al : c.all x
  inj : ∀ y, c.all y → c.cls x = c.cls y → x = y
structure IsF (K : PySem.W.Frag) (c : CEnv) (x : Str) : Prop where
  has : c.has x
  ki : ∀ n, ["int", "bool", "str", "NoneType", "tuple", "list", "dict"].contains n = true → PySem.W.kitOne K (.type n) (.ref (c.cls x)) = some false
  si : ∀ n, ["int", "bool", "str", "NoneType", "tuple", "list", "dict"].contains n = true → PySem.W.subIn K (.type n) (.ref (c.cls x)) = some false
theorem lk_inj : ∀ {l : List (Str × Addr)}, (l.map (·.1)).Nodup → (l.map (·.2)).Nodup → ∀ {x y : Str}, x ∈ l.map (·.1) → y ∈ l.map (·.1) → (l.lookup x).getD 0 = (l.lookup y).getD 0 → x = y
  | [], _, _, _, _, h, _, _ => by cases h
  | z :: l, h1, h2, x, y, hx, hy, e => by
    rw [List.map_cons, List.nodup_cons] at h1 h2
    have mem : ∀ {u : Str} {l : List (Str × Addr)}, u ∈ l.map (·.1) → ∃ a, l.lookup u = some a ∧ a ∈ l.map (·.2) := by
      intro u l
      induction l with
      | nil => intro h; cases h
      | cons w l ih =>
        intro h
        rw [List.lookup_cons]
        by_cases q : (u == w.1) = true
        · rw [q]; exact ⟨w.2, rfl, by rw [List.map_cons]; exact List.mem_cons_self ..⟩
        · have q' : (u == w.1) = false := by simpa using q
          rw [q']
          rw [List.map_cons] at h
          rcases List.mem_cons.mp h with h | h
          · rw [h] at q; simp at q
          · obtain ⟨a, h1, h2⟩ := ih h
            exact ⟨a, h1, by rw [List.map_cons]; exact List.mem_cons_of_mem _ h2⟩
    rw [List.lookup_cons, List.lookup_cons] at e
    by_cases qx : (x == z.1) = true
    · by_cases qy : (y == z.1) = true
      · rw [beq_iff_eq] at qx qy; rw [qx, qy]
      · have qy' : (y == z.1) = false := by simpa using qy
        rw [qx, qy'] at e
        rw [List.map_cons] at hy
        rcases List.mem_cons.mp hy with hy | hy
        · rw [hy] at qy; simp at qy
        · obtain ⟨a, k1, k2⟩ := mem hy
          rw [k1] at e
          exact absurd (show z.2 ∈ l.map (·.2) from (show z.2 = a from e) ▸ k2) h2.1
    · have qx' : (x == z.1) = false := by simpa using qx
      rw [List.map_cons] at hx hy
      rcases List.mem_cons.mp hx with hx | hx
      · rw [hx] at qx; simp at qx
      · by_cases qy : (y == z.1) = true
        · rw [qx', qy] at e
          obtain ⟨a, k1, k2⟩ := mem hx
          rw [k1] at e
          exact absurd (show z.2 ∈ l.map (·.2) from (show z.2 = a from e.symm) ▸ k2) h2.1
        · have qy' : (y == z.1) = false := by simpa using qy
          rcases List.mem_cons.mp hy with hy | hy
          · rw [hy] at qy; simp at qy
          · rw [qx', qy'] at e
            exact lk_inj h1.2 h2.2 hx hy e
def InsAt (K : PySem.W.Frag) (c : CEnv) (H : Hp) (p : Addr) (x : Str) (fs : List (Str × V)) : Prop := ClsOk K c x (fs.map (·.1)) ∧ ∃ dx, H p = some (.ins (c.cls x) dx fs)
theorem InsAt.same {K : PySem.W.Frag} {c : CEnv} {H H' : Hp} {p : Addr} {x : Str} {fs : List (Str × V)} (s : Same H H') (i : InsAt K c H p x fs) : InsAt K c H' p x fs := ⟨i.1, i.2.choose, s _ _ i.2.choose_spec⟩
theorem NotSt.ins {C dx : Addr} {fs : List (Str × V)} : NotSt (.ins C dx fs) := fun _ _ _ z => by cases z
theorem NotSt.tup {xs : List V} : NotSt (.tup xs) := fun _ _ _ z => by cases z
theorem InsAt.new {K : PySem.W.Frag} {c : CEnv} {H : Hp} {p r : Addr} {x : Str} {fs : List (Str × V)} {o : HO} (h : H r = none) (i : InsAt K c H p x fs) : InsAt K c (upd H r o) p x fs := ⟨i.1, i.2.choose, lk_new h i.2.choose_spec⟩
theorem InsAt.putL {K : PySem.W.Frag} {c : CEnv} {H : Hp} {p r : Addr} {x : Str} {fs : List (Str × V)} {xs : List V} {o : HO} (h : H r = some (.lst xs)) (i : InsAt K c H p x fs) : InsAt K c (upd H r o) p x fs := ⟨i.1, i.2.choose, lk_df i.2.choose_spec h (fun z => by cases z)⟩
structure Mth (P : Program) (w : World) (K : PySem.W.Frag) (mg : Str → Option Value) (base : Heap) (k : Nat) (C : Addr) (m : Str) (ps : List Str) (sp : Sp) : Prop where
  ex : ∃ (f : Addr) (fd : FuncData), Meth K C m f ∧ Binds K fd ps [] ∧ FnOk P w K mg base CX0 k f fd ps sp
structure ClsF (K : PySem.W.Frag) (mg : Str → Option Value) (c : CEnv) (x : Str) (gs : List Str) : Prop where
  ok : ClsOk K c x gs
  is : c.has x → IsF K c x
  mg : mg x = some (.ref (c.cls x))
def tMk (K : PySem.W.Frag) (c : CEnv) (x : Str) (gs : List Str) (sp : Sp) (t : TA) : TE := fun σ H Q => t σ H fun vs H1 => ClsOk K c x gs → ∀ p dx, H1 p = none → H1 dx = none → dx ≠ p →
  sp (.ref p :: vs) (upd (upd H1 dx (.own p)) p (.ins (c.cls x) dx [])) (fun v H2 => v = .non ∧ Q (.ref p) H2) E0
def tMt (c : CEnv) (x m : Str) (sp : Sp) (ta : TE) (t : TA) : TE := fun σ H Q => ta σ H fun v H1 => ∃ a dx fs, v = .ref a ∧ H1 a = some (.ins (c.cls x) dx fs) ∧ fs.lookup m = none ∧ t σ H1 fun vs H2 => sp (v :: vs) H2 Q E0
def tPr (c : CEnv) (x : Str) (sp : Sp) (ta : TE) : TE := fun σ H Q => ta σ H fun v H1 => ∃ a dx fs, v = .ref a ∧ H1 a = some (.ins (c.cls x) dx fs) ∧ sp [.ref a] H1 Q E0
def tCls (K : PySem.W.Frag) (c : CEnv) (x : Str) : TE := fun _ H Q => IsF K c x → Q (.ref (c.cls x)) H
section
variable {X : Cx} {c : CEnv} {k : Nat} {x m : Str} {ps gs : List Str} {sp : Sp} {p pos apos : Pos} {e o : Expr} {es : List Expr} {t : TA} {ta : TE}
theorem z_meth {pl : Sem Bool} (he : PE X o ta) (CF : ClsF X.K X.mg c x gs) (M : Mth X.prog X.w X.K X.mg X.base k (c.cls x) m ps sp) (hr : Room k X.A) (ha : PA X (e :: es) t)
    (hst : starEach (e :: es) X.env = (false, eval e X.env) :: starEach es X.env := by rfl) (hpl : (backTo pos (starEach es X.env)).any (·.1) = false := by rfl)
    (ht : eval (.Call (.Attribute o m apos) (e :: es) [] pos) X.env = (do
      let ov ← eval o X.env
      standAt apos.atName
      let (f, first) ← holding [ov] (getMethod ov m pl)
      callWith pos f first (backTo pos (starEach (e :: es) X.env)) (backToKw pos (keywordEach [] X.env))) := by rfl) : PE X (.Call (.Attribute o m apos) (e :: es) [] pos) (tMt c x m sp ta t) := by
  obtain ⟨f, fd, hM, hb, F⟩ := M.ex
  have h := pe_meth (E := E0) (dvs := []) he CF.ok.cl hM F hr hb .nil pass0 ha hst hpl ht
  have e : tMeth (c.cls x) m sp [] E0 ta t = tMt c x m sp ta t := by
    funext σ H Q; simp only [tMeth, tMt, List.append_nil]
  rw [← e]; exact h
theorem z_meth0 {pl : Sem Bool} (he : PE X o ta) (CF : ClsF X.K X.mg c x gs) (M : Mth X.prog X.w X.K X.mg X.base k (c.cls x) m ps sp) (hr : Room k X.A)
    (ht : eval (.Call (.Attribute o m apos) [] [] pos) X.env = (do
      let ov ← eval o X.env
      standAt apos.atName
      let (f, first) ← holding [ov] (getMethod ov m pl)
      callWith pos f first (backTo pos (starEach [] X.env)) (backToKw pos (keywordEach [] X.env))) := by rfl) : PE X (.Call (.Attribute o m apos) [] [] pos) (tMt c x m sp ta tNil) := by
  obtain ⟨f, fd, hM, hb, F⟩ := M.ex
  have h := pe_meth0 (E := E0) (dvs := []) he CF.ok.cl hM F hr hb .nil pass0 ht
  refine ⟨fun pins s σ H Q I q => h.run pins s σ H Q I ?_⟩
  first
    | exact q
    | (simp only [List.append_nil] at *; exact q)
end
section
variable {X : Cx} {c : CEnv} {k : Nat} {x : Str} {ps gs : List Str} {sp : Sp}
end
section
variable {K : PySem.W.Frag} {c : CEnv} {x f : Str} {gs : List Str} {H : Hp} {Q : VK} {p dx : Addr} {fs : List (Str × V)} {v : V} {σ : L2.St} {t : TA} {ta : TE} {sp : Sp} {m : Str}
theorem z_fld (ok : ClsOk K c x gs) (h : H p = some (.ins (c.cls x) dx fs)) (l : fs.lookup f = some v) (n : gs.contains f = true) (k : Q v H) : zFld K f (.ref p) H Q := ⟨p, _, dx, fs, v, rfl, h, ok.cl, ok.na f n, l, k⟩
theorem z_set {N : Hp → Prop} {y : V} (ok : ClsOk K c x gs) (h : H p = some (.ins (c.cls x) dx fs)) (n : gs.contains f = true) (l : fs.length < 1000) (k : N (upd H p (.ins (c.cls x) dx (putF f y fs)))) : zSet K f y (.ref p) H N := ⟨p, _, dx, fs, rfl, h, ok.cl, ok.na f n, l, k⟩
theorem z_mk (k : t σ H fun vs H1 => ClsOk K c x gs → ∀ p dx, H1 p = none → H1 dx = none → dx ≠ p → sp (.ref p :: vs) (upd (upd H1 dx (.own p)) p (.ins (c.cls x) dx [])) (fun v H2 => v = .non ∧ Q (.ref p) H2) E0) : tMk K c x gs sp t σ H Q := k
theorem z_mt (k : ta σ H fun v H1 => ∃ a dx fs, v = .ref a ∧ H1 a = some (.ins (c.cls x) dx fs) ∧ fs.lookup m = none ∧ t σ H1 fun vs H2 => sp (v :: vs) H2 Q E0) : tMt c x m sp ta t σ H Q := k
theorem z_pr (k : ta σ H fun v H1 => ∃ a dx fs, v = .ref a ∧ H1 a = some (.ins (c.cls x) dx fs) ∧ sp [.ref a] H1 Q E0) : tPr c x sp ta σ H Q := k
theorem z_clsv (k : IsF K c x → Q (.ref (c.cls x)) H) : tCls K c x σ H Q := k
end
theorem na_of {P : Str → Prop} {gs : List Str} (h : ∀ f ∈ gs, P f) : ∀ f, gs.contains f = true → P f := fun f hf => h f (by simpa using hf)
local macro_rules | `(tactic| walk_at "z") => `(tactic| with_reducible first
  | ((show zFld _ _ _ _ _); refine z_fld (by assumption) (by walk_at "lk") (by with_unfolding_all rfl) (by with_unfolding_all rfl) ?_)
  | ((show zSet _ _ _ _ _ _); refine z_set (by assumption) (by walk_at "lk") (by with_unfolding_all rfl) (by with_unfolding_all exact of_decide_eq_true rfl) ?_)
  | (refine z_mk ?_) | (refine z_mt ?_) | (refine z_pr ?_) | (refine z_clsv ?_; intro _))

-- _law_row(_law_script, _law_k): slots 0:_law_script 1:_law_k 2:_law_cell 3:_law_a 4:_law_b 5:_law_c
def T_law_row (K : PySem.W.Frag) : TS :=
    (tSeq (tAsg (tC (.int 0)) (gName 2))
    (tCut (tIfS (tTest (tOp (uLt K) (tVar 1) (tCB (uLen K) (tCons (tVar 0) tNil)))) (tAsg (tOp (uIx K) (tVar 0) (tVar 1)) (gName 2)) tNext)
    (tCut (tIfS (tTest (tOp (uLt K) (tVar 2) (tC (.int 0)))) (tAsg (tOp uSub (tOp uMul (tUn uNeg (tC (.int 2))) (tVar 2)) (tC (.int 1))) (gName 2)) tNext)
    (tCut (tIfS (tTest (tOp (uLt K) (tVar 2) (tOp uPow (tC (.int 10)) (tC (.int 9))))) (tSeq (tAsg (tOp uMod (tCB uInt (tCons (tOp (uAdd K) (tOp (uAdd K) (tOp uMul (tVar 2) (tC (.int 48271))) (tOp uMul (tVar 1) (tC (.int 69621)))) (tC (.int 11))) tNil)) (tC (.int 2147483647))) (gName 3))
    (tSeq (tAsg (tOp uMod (tCB uInt (tCons (tOp (uAdd K) (tOp (uAdd K) (tOp (uAdd K) (tOp uMul (tVar 3) (tC (.int 16807))) (tOp uMul (tVar 2) (tC (.int 7)))) (tVar 1)) (tC (.int 5))) tNil)) (tC (.int 2147483629))) (gName 4))
    (tSeq (tAsg (tOp uMod (tCB uInt (tCons (tOp (uAdd K) (tOp (uAdd K) (tOp uMul (tVar 4) (tC (.int 39373))) (tOp uMul (tVar 3) (tVar 4))) (tC (.int 3))) tNil)) (tC (.int 2147483587))) (gName 5))
    (tAsg (tOp (uAdd K) (tOp (uAdd K) (tVar 3) (tOp uMul (tVar 4) (tC (.int 2147483647)))) (tOp uMul (tVar 5) (tOp uPow (tC (.int 2147483647)) (tC (.int 2))))) (gName 2))))) tNext)
    (tRet (tVar 2))))))
def sp_law_row (K : PySem.W.Frag) : Sp := fun vs H Q _ => ∃ (L : Addr) (ns : List Int) (k : Int), vs = [.ref L, .int k] ∧ SqL K H L (ns.map V.int) ∧ 0 ≤ k ∧ ∀ c : Int, 0 ≤ c → Q (.int c) H
theorem r_law_row {K : PySem.W.Frag} {L : Addr} {ns : List Int} {k : Int} {H : Hp} {D : Ends} (hL : SqL K H L (ns.map V.int)) (hk : 0 ≤ k) (q : ∀ c : Int, 0 ≤ c → D.rt (.int c) H) :
    T_law_row K D [some (.ref L), some (.int k), none, none, none, none] H := by
  unfold T_law_row
  walk_at "zz"
  refine z_cut (fun σ H' => H = H' ∧ ∃ c : Int, σ = [some (.ref L), some (.int k), some (.int c), none, none, none]) ?_ ?_
  · walk_at "zz"
    refine z_itD (fun c => ?_) (fun c => ?_)
    · walk_at "zz"
      refine z_ix (.inl hL) (at_int hk (by simpa using c)) ?_
      walk_at "zz"
      exact ⟨rfl, _, rfl⟩
    · walk_at "zz"
      exact ⟨rfl, _, rfl⟩
  rintro σ H' ⟨rfl, c, rfl⟩
  refine z_cut (fun σ H' => H = H' ∧ ∃ c : Int, 0 ≤ c ∧ σ = [some (.ref L), some (.int k), some (.int c), none, none, none]) ?_ ?_
  · walk_at "zz"
    refine z_itD (fun c => ?_) (fun c => ?_)
    · walk_at "zz"
      exact ⟨rfl, _, by omega, rfl⟩
    · walk_at "zz"
      exact ⟨rfl, _, by omega, rfl⟩
  rintro σ H' ⟨rfl, c, hc, rfl⟩
  refine z_cut (fun σ H' => H = H' ∧ ∃ (c : Int) (x y z : Option V), 0 ≤ c ∧ σ = [some (.ref L), some (.int k), some (.int c), x, y, z]) ?_ ?_
  · walk_at "zz"
    refine z_itD (fun h => ?_) (fun h => ?_)
    · walk_at "zz"
      refine ⟨rfl, _, _, _, _, ?_, rfl⟩
      omega
    · walk_at "zz"
      exact ⟨rfl, _, _, _, _, hc, rfl⟩
  rintro σ H' ⟨rfl, c, x, y, z, hc, rfl⟩
  walk_at "zz"
  exact q c hc
-- _law_next(_law_state, _law_many): slots 0:_law_state 1:_law_many 2:_law_drawn
def T_law_next (K : PySem.W.Frag) : TS :=
    (tCut (tIfS (tTest (tOp (uLt K) (tOp (uIx K) (tVar 0) (tC (.int 2))) (tVar 1))) (tSeq (tAsg (tCal (sp_law_row K) (tCons (tOp (uIx K) (tVar 0) (tC (.int 0))) (tCons (tOp (uIx K) (tVar 0) (tC (.int 1))) tNil))) (gSub (tVar 0) (tC (.int 2)) rSetL))
    (tAsg (tOp (uAdd K) (tOp (uIx K) (tVar 0) (tC (.int 1))) (tC (.int 1))) (gSub (tVar 0) (tC (.int 1)) rSetL))) tNext)
    (tSeq (tAsg (tOp uMod (tCB uInt (tCons (tOp (uIx K) (tVar 0) (tC (.int 2))) tNil)) (tVar 1)) (gName 2))
    (tSeq (tAsg (tOp uDiv (tOp (uIx K) (tVar 0) (tC (.int 2))) (tVar 1)) (gSub (tVar 0) (tC (.int 2)) rSetL))
    (tRet (tVar 2)))))
structure Draw (H : Hp) (st L : Addr) : Prop where
  ex : ∃ (ns : List Int) (k a : Int), H st = some (.lst [.ref L, .int k, .int a]) ∧ H L = some (.lst (ns.map V.int)) ∧ L ≠ st ∧ 0 ≤ k ∧ 0 ≤ a
theorem Draw.ne {H : Hp} {st L p : Addr} (h : H p = none) (d : Draw H st L) : p ≠ st := by
  obtain ⟨_, _, _, e, _⟩ := d.ex
  exact (ne_of_none e h).symm
theorem Draw.neL {H : Hp} {st L p : Addr} (h : H p = none) (d : Draw H st L) : p ≠ L := by
  obtain ⟨_, _, _, _, e, _⟩ := d.ex
  exact (ne_of_none e h).symm
theorem Draw.new {H : Hp} {st L p : Addr} {o : HO} (h : H p = none) (d : Draw H st L) : Draw (upd H p o) st L := by
  obtain ⟨ns, k, a, e, s, n, hk, ha⟩ := d.ex
  exact ⟨ns, k, a, lk_ne (ne_of_none e h) e, lk_ne (ne_of_none s h) s, n, hk, ha⟩
theorem Draw.same {H H' : Hp} {st L : Addr} (x : Same H H') (d : Draw H st L) : Draw H' st L := by
  obtain ⟨ns, k, a, e, s, n, hk, ha⟩ := d.ex
  exact ⟨ns, k, a, x _ _ e, x _ _ s, n, hk, ha⟩
theorem Draw.put {H : Hp} {st L p : Addr} {o : HO} (h1 : p ≠ st) (h2 : p ≠ L) (d : Draw H st L) : Draw (upd H p o) st L := by
  obtain ⟨ns, k, a, e, s, n, hk, ha⟩ := d.ex
  exact ⟨ns, k, a, lk_ne h1.symm e, lk_ne h2.symm s, n, hk, ha⟩
theorem Draw.back {H H' : Hp} {st L p : Addr} (d : Draw H' st L) (x : ExD H H') (h : H' p = none) (hs : ∀ L k a, H p = some (.lst [.ref L, .int k, .int a]) → p = st) : H p = none := by
  cases e : H p with
  | none => rfl
  | some o =>
    by_cases n : NotSt o
    · have := x p o n e
      rw [h] at this; cases this
    · exfalso
      apply n
      rintro L k a rfl
      exact Draw.ne h d (hs L k a e)
def sp_law_next (K : PySem.W.Frag) : Sp := fun vs H Q _ => ∃ (st L : Addr) (m : Int), vs = [.ref st, .int m] ∧ Draw H st L ∧ 0 < m ∧ m < 1000000000000000000 ∧ ∀ (r : Int) (H' : Hp), 0 ≤ r → r < m → Draw H' st L → ExD H H' → (∀ a, a ≠ st → H' a = H a) → Q (.int r) H'
theorem law_row_c {K : PySem.W.Frag} {L : Addr} {k : Int} {H : Hp} {Q : VK} {E : XK} {ns : List Int} (hL : SqL K H L (ns.map V.int)) (hk : 0 ≤ k) (q : ∀ c : Int, 0 ≤ c → Q (.int c) H) : sp_law_row K [.ref L, .int k] H Q E := ⟨L, ns, k, rfl, hL, hk, q⟩
theorem r_law_next {K : PySem.W.Frag} {st L : Addr} {m : Int} {H : Hp} {D : Ends} (d : Draw H st L) (h0 : 0 < m) (h1 : m < 1000000000000000000) (q : ∀ (r : Int) (H' : Hp), 0 ≤ r → r < m → Draw H' st L → ExD H H' → (∀ a, a ≠ st → H' a = H a) → D.rt (.int r) H') :
    T_law_next K D [some (.ref st), some (.int m), none] H := by
  obtain ⟨ns, k, a, e, sL, n, hk, ha⟩ := d.ex
  have s : SqL K H L (ns.map V.int) := SqL.of sL
  unfold T_law_next
  refine z_cut (fun σ H' => ∃ k a : Int, H' = upd H st (.lst [.ref L, .int k, .int a]) ∧ 0 ≤ k ∧ 0 ≤ a ∧ σ = [some (.ref st), some (.int m), none]) ?_ ?_
  · walk_at "zz"
    refine z_itD (fun h => ?_) (fun h => ?_)
    · walk_at "zz"
      refine law_row_c s hk fun c hc => ?_
      walk_at "zz"
      refine ⟨k + 1, c, ?_, by omega, hc, rfl⟩
      simp only [upd_upd]; rfl
    · walk_at "zz"
      exact ⟨k, a, (upd_self e).symm, hk, ha, rfl⟩
  rintro σ H' ⟨k, a, rfl, hk, ha, rfl⟩
  walk_at "zz"
  refine q _ _ (Int.emod_nonneg _ (by omega)) (Int.emod_lt_of_pos _ h0) ⟨ns, k, a / m, upd_same, ?_, n, hk, Int.ediv_nonneg ha (by omega)⟩ ?_ ?_
  · exact lk_ne n (lk_ne n sL)
  · exact ExD.st e (ExD.st e (ExD.refl H))
  · intro b hb; rw [upd_ne hb, upd_ne hb]
theorem law_next_c {K : PySem.W.Frag} {st L : Addr} {m : Int} {H : Hp} {Q : VK} {E : XK} (d : Draw H st L) (h0 : 0 < m) (h1 : m < 1000000000000000000) (q : ∀ (r : Int) (H' : Hp), 0 ≤ r → r < m → Draw H' st L → ExD H H' → Q (.int r) H') : sp_law_next K [.ref st, .int m] H Q E :=
  ⟨st, L, m, rfl, d, h0, h1, fun r H' a b c e _ => q r H' a b c e⟩
-- _law_is_integer(_law_actual): slots 0:_law_actual
theorem Draw.start {H : Hp} {l p : Addr} {ns : List Int} (h1 : H l = none) (h2 : upd H l (.lst (ns.map V.int)) p = none) : Draw (upd (upd H l (.lst (ns.map V.int))) p (.lst [.ref l, .int 0, .int 0])) p l := by
  have ne : l ≠ p := ne_of_none (H := upd H l (.lst (ns.map V.int))) upd_same h2
  exact ⟨ns, 0, 0, upd_same, lk_ne ne upd_same, ne, by decide, by decide⟩
abbrev N_law_row : List Str := ["_law_script", "_law_k", "_law_cell", "_law_a", "_law_b", "_law_c"]
theorem w_law_row {K : PySem.W.Frag} : Wd (T_law_row K) N_law_row 2 (sp_law_row K) := fun vs H Q E h => by
  obtain ⟨L, ns, k, rfl, h1, h2, q⟩ := h
  exact ⟨rfl, r_law_row h1 h2 q⟩
abbrev N_law_next : List Str := ["_law_state", "_law_many", "_law_drawn"]
theorem w_law_next {K : PySem.W.Frag} : Wd (T_law_next K) N_law_next 2 (sp_law_next K) := fun vs H Q E h => by
  obtain ⟨st, L, m, rfl, d, h0, h1, q⟩ := h
  exact ⟨rfl, r_law_next d h0 h1 q⟩
local macro_rules | `(tactic| walk_at "dr") => `(tactic| with_reducible first | assumption | ((show Draw (upd _ _ _) _ _); first | exact Draw.new (by assumption) (by walk_at "dr") | exact Draw.put (by walk_at "ne") (by walk_at "ne") (by walk_at "dr")) | exact Draw.same (by assumption) (by walk_at "dr"))
local macro_rules | `(tactic| walk_at "nx") => `(tactic| (refine law_next_c (by walk_at "dr") (by first | decide | omega) (by first | decide | omega) ?_))

inductive All2 {α β : Type} (R : α → β → Prop) : List α → List β → Prop
  | nil : All2 R [] []
  | cons {a : α} {b : β} {as : List α} {bs : List β} (h : R a b) (t : All2 R as bs) : All2 R (a :: as) (b :: bs)
section
variable {α β : Type} {R S : α → β → Prop} {as : List α} {bs : List β} {a : α} {b : β}
theorem All2.imp (f : ∀ a b, R a b → S a b) (h : All2 R as bs) : All2 S as bs := by
  induction h with
  | nil => exact .nil
  | cons h t ih => exact .cons (f _ _ h) ih
theorem All2.app (h : All2 R as bs) (e : R a b) : All2 R (as ++ [a]) (bs ++ [b]) := by
  induction h with
  | nil => exact .cons e .nil
  | cons h t ih => exact .cons h ih
theorem All2.len (h : All2 R as bs) : as.length = bs.length := by
  induction h with
  | nil => rfl
  | cons h t ih => simp [ih]
theorem All2.get (h : All2 R as bs) : ∀ {i : Nat} (hi : i < as.length) (hj : i < bs.length), R as[i] bs[i] := by
  induction h with
  | nil => intro i hi; cases hi
  | cons h t ih => intro i hi hj; cases i with
    | zero => exact h
    | succ i => exact ih (by simpa using hi) (by simpa using hj)
theorem All2.of {n : Nat} (ha : as.length = n) (hb : bs.length = n) (f : ∀ i (hi : i < as.length) (hj : i < bs.length), R as[i] bs[i]) : All2 R as bs := by
  induction as generalizing bs n with
  | nil => cases bs with
    | nil => exact .nil
    | cons b t => simp at ha hb; omega
  | cons a t ih => cases bs with
    | nil => simp at ha hb; omega
    | cons b u => exact .cons (f 0 (by simp) (by simp)) (ih (n := n - 1) (by simp at ha; omega) (by simp at hb; omega) fun i hi hj => f (i + 1) (by simpa using hi) (by simpa using hj))
end
section
variable {α β : Type} {R : α → β → Prop} {as : List α} {bs : List β} {a : α} {b : β}
theorem All2.take (h : All2 R as bs) : ∀ k : Nat, All2 R (as.take k) (bs.take k) := by
  induction h with
  | nil => intro k; rw [List.take_nil, List.take_nil]; exact .nil
  | cons h t ih => intro k; cases k with
    | zero => exact .nil
    | succ k => exact .cons h (ih k)
theorem All2.drop (h : All2 R as bs) : ∀ k : Nat, All2 R (as.drop k) (bs.drop k) := by
  induction h with
  | nil => intro k; rw [List.drop_nil, List.drop_nil]; exact .nil
  | cons h t ih => intro k; cases k with
    | zero => exact .cons h t
    | succ k => exact ih k
theorem All2.mem (h : All2 R as bs) (ha : a ∈ as) : ∃ b ∈ bs, R a b := by
  induction h with
  | nil => cases ha
  | cons h t ih =>
    rcases List.mem_cons.mp ha with rfl | ha
    · exact ⟨_, List.mem_cons_self .., h⟩
    · obtain ⟨b, hb, r⟩ := ih ha; exact ⟨b, List.mem_cons_of_mem _ hb, r⟩
end
theorem Same.put {H H' : Hp} {p : Addr} {o : HO} (h : H p = none) (x : Same H H') : Same H (upd H' p o) := fun a u e => lk_ne (ne_of_none e h) (x a u e)
section
open PySem.AutoSeq1 (wpAny_loadPart')
end
def IteT (K : PySem.W.Frag) (a : Addr) : It :=
  ⟨fun i H => ∃ (xs : List V) (x : V), SqT K H a xs ∧ xs[i]? = some x, fun i H v H' => ∃ T x, v = .ref T ∧ H T = none ∧ H' = upd H T (.tup [.int (i : Nat), x]) ∧ ∀ xs, SqT K H a xs → xs[i]? = some x, fun i H => ∃ xs : List V, SqT K H a xs ∧ xs.length ≤ i⟩
def iEnumA (K : PySem.W.Frag) (ta : TA) : TI := fun σ H R => ta σ H fun vs H1 => ∃ a xs, vs = [.ref a] ∧ ((SqL K H1 a xs ∧ R (Ite K a) H1) ∨ (SqT K H1 a xs ∧ R (IteT K a) H1))
def zEnumA (K : PySem.W.Frag) (g : TG) (tb : TS) (D : Ends) (σ : L2.St) (vs : List V) (H1 : Hp) : Prop := ∃ a xs, vs = [.ref a] ∧ ((SqL K H1 a xs ∧ ∃ W : Nat → Nat → L2.St → Hp → Prop, (∃ m, W 0 m σ H1) ∧ ∀ i m σ H, W i m σ H →
  ((Ite K a).stop i H ∧ D.nx σ H) ∨ ((Ite K a).go i H ∧ ∃ N : L2.St → Hp → Prop, (∀ σ' H', N σ' H' → ∃ m', m' < m ∧ W (i + 1) m' σ' H') ∧ ∀ x H', (Ite K a).yld i H x H' → g x σ H' fun σ2 H2 => tb { D with nx := N, ct := N, bk := D.nx } σ2 H2)) ∨
  (SqT K H1 a xs ∧ ∃ W : Nat → Nat → L2.St → Hp → Prop, (∃ m, W 0 m σ H1) ∧ ∀ i m σ H, W i m σ H →
  ((IteT K a).stop i H ∧ D.nx σ H) ∨ ((IteT K a).go i H ∧ ∃ N : L2.St → Hp → Prop, (∀ σ' H', N σ' H' → ∃ m', m' < m ∧ W (i + 1) m' σ' H') ∧ ∀ x H', (IteT K a).yld i H x H' → g x σ H' fun σ2 H2 => tb { D with nx := N, ct := N, bk := D.nx } σ2 H2)))
section
variable {K : PySem.W.Frag} {σ : L2.St} {H : Hp} {D : Ends} {ta : TA} {g : TG} {tb : TS} {a : Addr} {xs : List V}
theorem z_forEA (k : ta σ H fun vs H1 => zEnumA K g tb D σ vs H1) : tFor (iEnumA K ta) g tb D σ H := k
end

def ddZ (acc : List Int) : List Int → List Int
  | [] => acc
  | x :: xs => ddZ (if acc.any (· == x) then acc else acc ++ [x]) xs
def setN (ns : List Int) : Nat := (ddZ [] ns).length
def tLenSet (K : PySem.W.Frag) (ta : TE) : TE := fun σ H Q => ta σ H fun x H1 => ∃ (l : Addr) (ns : List Int), x = .ref l ∧ SqL K H1 l (ns.map V.int) ∧ ns.length ≤ 4000 ∧ Q (.int (setN ns : Nat)) H1
theorem z_lenSet {K : PySem.W.Frag} {ta : TE} {σ : L2.St} {H : Hp} {Q : VK} (k : ta σ H fun x H1 => ∃ (l : Addr) (ns : List Int), x = .ref l ∧ SqL K H1 l (ns.map V.int) ∧ ns.length ≤ 4000 ∧ Q (.int (setN ns : Nat)) H1) : tLenSet K ta σ H Q := k

abbrev W0 : WX := fun _ _ _ _ => False
theorem passF {X : Cx} : ∀ σ, PassesAt (L2.CX X.prog X.w) X σ (WE W0 σ) := fun σ => passAt takes0 σ
theorem passW {X : Cx} {W : WX} (tk : Takes X W) : ∀ σ, PassesAt (L2.CX X.prog X.w) X σ (WE W σ) := fun σ => passAt tk σ
def WdX (T : WX → TS) (N : List Str) (n : Nat) (sp : Sp) : Prop := ∀ (vs : List V) (H : Hp) (Q : VK) (E : XK), sp vs H Q E → vs.length = n ∧ T (fun cls d _ H => E cls d H) { nx := fun _ H' => Q .non H', rt := Q } (start N vs) H
structure DfnX (P : Program) (w : World) (K : PySem.W.Frag) (mg : Str → Option Value) (base : Heap) (k : Nat) (x : Str) (ps : List Str) (sp : Sp) : Prop where
  ex : ∃ (f : Addr) (fd : FuncData), mg x = some (.ref f) ∧ PySem.W.keepIn K (.ref f) = true ∧ Binds K fd ps [] ∧ FnOk P w K mg base (L2.CX P w) k f fd ps sp
structure MkrX (P : Program) (w : World) (K : PySem.W.Frag) (mg : Str → Option Value) (base : Heap) (k : Nat) (C : Addr) (ps : List Str) (sp : Sp) : Prop where
  ex : ∃ (f : Addr) (fd : FuncData), Mk K C f ∧ Binds K fd ps [] ∧ FnOk P w K mg base (L2.CX P w) k f fd ps sp
structure MthX (P : Program) (w : World) (K : PySem.W.Frag) (mg : Str → Option Value) (base : Heap) (k : Nat) (C : Addr) (m : Str) (ps : List Str) (sp : Sp) : Prop where
  ex : ∃ (f : Addr) (fd : FuncData), Meth K C m f ∧ Binds K fd ps [] ∧ FnOk P w K mg base (L2.CX P w) k f fd ps sp
inductive Cst where
  | v (x : V)
  | e
def Cst.Is (K : PySem.W.Frag) : Cst → V → Prop
  | .v x, u => u = x
  | .e, u => ∃ T, u = .ref T ∧ ∀ H, SqT K H T []
def gSel (sel : List (Bool × Nat)) {α : Type} (vs mz zs : List α) : List α := vs ++ sel.filterMap fun z => if z.1 then zs[z.2]? else mz[z.2]?
theorem gSel_rel (sel : List (Bool × Nat)) {vs mz zs : List V} {us mv ws : List Value} (h1 : Vals vs us) (h2 : Vals mz mv) (h3 : Vals zs ws) : Vals (gSel sel vs mz zs) (gSel sel us mv ws) := by
  unfold gSel
  refine h1.append ?_
  have one : ∀ {xs : List V} {as : List Value} (i : Nat), Vals xs as → (xs[i]? = none ∧ as[i]? = none) ∨ ∃ x a, xs[i]? = some x ∧ as[i]? = some a ∧ RelV x a := by
    intro xs as i r
    cases e : xs[i]? with
    | none => exact .inl ⟨rfl, Vals.none_of r e⟩
    | some x => obtain ⟨a, ea, ra⟩ := Vals.get r e; exact .inr ⟨x, a, rfl, ea, ra⟩
  induction sel with
  | nil => exact .nil
  | cons z t ih =>
    obtain ⟨b, i⟩ := z
    cases b with
    | true =>
      rcases one i h3 with ⟨e1, e2⟩ | ⟨x, a, e1, e2, r⟩
      · simp only [List.filterMap_cons, if_pos, e1, e2]; exact ih
      · simp only [List.filterMap_cons, if_pos, e1, e2]; exact .cons r ih
    | false =>
      rcases one i h2 with ⟨e1, e2⟩ | ⟨x, a, e1, e2, r⟩
      · simp only [List.filterMap_cons, Bool.false_eq_true, if_false, e1, e2]; exact ih
      · simp only [List.filterMap_cons, Bool.false_eq_true, if_false, e1, e2]; exact .cons r ih
structure MkrK (CX : CXT) (P : Program) (w : World) (K : PySem.W.Frag) (mg : Str → Option Value) (base : Heap) (k : Nat) (C : Addr) (ps : List Str) (sp : Sp) (n : Nat) (ks : List Str) (ms : List Cst) (sel : List (Bool × Nat)) : Prop where
  ex : ∃ (f : Addr) (fd : FuncData) (g : List Value → List Value → List Value) (ds : List V), Mk K C f ∧ All2 (Cst.Is K) ms ds ∧ KBn K fd ps (n + 1) ks g (fun vs zs => gSel sel vs ds zs) ∧ FnOk P w K mg base CX k f fd ps sp
def tMkX (K : PySem.W.Frag) (c : CEnv) (x : Str) (gs : List Str) (sp : Sp) (W : WX) (t : TA) : TE := fun σ H Q => t σ H fun vs H1 => ClsOk K c x gs → ∀ p dx, H1 p = none → H1 dx = none → dx ≠ p →
  sp (.ref p :: vs) (upd (upd H1 dx (.own p)) p (.ins (c.cls x) dx [])) (fun v H2 => v = .non ∧ Q (.ref p) H2) (WE W σ)
def tMkK (K : PySem.W.Frag) (c : CEnv) (x : Str) (gs : List Str) (n m : Nat) (ms : List Cst) (sel : List (Bool × Nat)) (sp : Sp) (W : WX) (t tk : TA) : TE := fun σ H Q => t σ H fun vs H1 => tk σ H1 fun zs H2 => vs.length = n ∧ zs.length = m ∧ (ClsOk K c x gs → ∀ ds, All2 (Cst.Is K) ms ds → ∀ p dx, H2 p = none → H2 dx = none → dx ≠ p →
  sp (gSel sel (.ref p :: vs) ds zs) (upd (upd H2 dx (.own p)) p (.ins (c.cls x) dx [])) (fun v H3 => v = .non ∧ Q (.ref p) H3) (WE W σ))
def tMtX (c : CEnv) (x m : Str) (sp : Sp) (W : WX) (ta : TE) (t : TA) : TE := fun σ H Q => ta σ H fun v H1 => ∃ a dx fs, v = .ref a ∧ H1 a = some (.ins (c.cls x) dx fs) ∧ fs.lookup m = none ∧ t σ H1 fun vs H2 => sp (v :: vs) H2 Q (WE W σ)
structure ExcF (K : PySem.W.Frag) (mg : Str → Option Value) (c : CEnv) (x : Str) : Prop where
  q : PySem.W.excIn K (c.cls x) [.type "ValueError", .type "Exception", .type "BaseException", .type "object"] "ValueError.__new__" = true
  mg : mg x = some (.ref (c.cls x))
  kp : PySem.W.keepIn K (.ref (c.cls x)) = true
  sb : PySem.W.subIn K (.ref (c.cls x)) (.type "BaseException") = some true
  ty : PySem.W.typeIn K (.ref (c.cls x)) = some (.type "type")
def sRaise (c : CEnv) (x : Str) (W : WX) : TS := fun _ σ H => W (.ref (c.cls x)) none σ H
def sTry (K : PySem.W.Frag) (c : CEnv) (x : Str) (ys : List Str) (tb : WX → TS) (ts : TS) (Wo : WX) : TS := fun D σ H =>
  (∀ y ∈ ys, PySem.W.exmOne K (.ref (c.cls y)) (.ref (c.cls x)) = some (SUB y x)) → tb (wOnly K (.ref (c.cls x)) (fun _ _ _ => ts) Wo D) D σ H
section
variable {X : Cx} {c : CEnv} {k n : Nat} {x m : Str} {ps gs : List Str} {sp : Sp} {W : WX} {p pos apos : Pos} {e o : Expr} {es : List Expr} {t tk : TA} {ta : TE}
theorem z_callX (D : DfnX X.prog X.w X.K X.mg X.base k x ps sp) (hx : ∀ σ, PassesAt (L2.CX X.prog X.w) X σ (WE W σ)) (hr : Room k X.A) (hg : Gl X x) (ha : PA X (e :: es) t) (hdb : (x == ("__debug__" : Str)) = false := by decide)
    (he : starEach (e :: es) X.env = (false, eval e X.env) :: starEach es X.env := by rfl) (hpl : (backTo pos (starEach es X.env)).any (·.1) = false := by rfl) : PE X (.Call (.Name x p) (e :: es) [] pos) (tCallS sp (WE W) t) := by
  obtain ⟨f, fd, hm, hk, hb, F⟩ := D.ex
  exact pe_callS F hr hg hm hk hb hx ha hdb he hpl
theorem run_mkS {CX : CXT} {C f : Addr} {fd : FuncData} {ks : List Str} {g : List Value → List Value → List Value} {gV : List V → List V → List V} {E : XK} {pins : List (Addr × Obj)} {σ : L2.St} {H : Hp} {s : Shared} {Q : VK} {us ws : List Value} {vs zs : List V}
    (M : Mk X.K C f) (F : FnOk X.prog X.w X.K X.mg X.base CX k f fd ps sp) (hr : Room (k + 1) X.A) (bind : ∀ s : Shared, X.K.In s.heap → BindsTo s fd ⟨Value.ref (s.heap.objs.size - 1) :: us, ks.zip ws⟩ (ps.zip (g (Value.ref (s.heap.objs.size - 1) :: us) ws)))
    (rel : ∀ q, Vals (gV (V.ref q :: vs) zs) (g (Value.ref q :: us) ws)) (hx : PassesAt CX X σ E) (I : Inv X pins σ H s)
    (h : ∀ q dx, H q = none → H dx = none → dx ≠ q → sp (gV (.ref q :: vs) zs) (upd (upd H dx (.own q)) q (.ins C dx [])) (fun v H2 => v = .non ∧ Q (.ref q) H2) E)
    (bind2 : ∀ (s2 : Shared) (q : Addr), X.K.In s2.heap → BindsTo s2 fd ⟨Value.ref q :: us, ks.zip ws⟩ (ps.zip (g (Value.ref q :: us) ws))) :
    wpAny (model X.prog X.w) X.A (call (.ref C) us (ks.zip ws)) (EP X pins σ Q) X.xe s := by
  have want := h (s.heap.objs.size + 1) s.heap.objs.size (I.hok.fresh (Nat.le_succ _)) (I.hok.fresh (Nat.le_refl _)) (Nat.ne_of_lt (Nat.lt_succ_self _))
  have J := Inv.made (C := C) I
  have go := F.run _ X.stack _ _ ⟨Value.ref (s.heap.objs.size + 1) :: us, ks.zip ws⟩ (g (Value.ref (s.heap.objs.size + 1) :: us) ws) _ _ E (hr.make C us (ks.zip ws)) (J.env0.make C us (ks.zip ws)) (bind2 _ _ J.kIn) (rel _) want
  refine wpAny_call (make_map (f := f) I.kIn M.makes M.init (beq_iff_eq.mp M.fn) (codeAny_mono go fun r s' hr' => ?_))
  match r, hr' with
  | .error e, hr' => exact hx pins _ _ e s' J hr'
  | .ok (.ret u), hr' =>
    obtain ⟨v, H', I3, rv, ev, q3⟩ := J.after hr'
    subst ev
    exact ⟨rv, ⟨V.ref (s.heap.objs.size + 1), H', I3, rfl, q3⟩⟩
  | .ok .next, hr' => exact hr'.elim
  | .ok .brk, hr' => exact hr'.elim
  | .ok .cont, hr' => exact hr'.elim
theorem z_makeX (CF : ClsF X.K X.mg c x gs) (M : MkrX X.prog X.w X.K X.mg X.base k (c.cls x) ps sp) (hx : ∀ σ, PassesAt (L2.CX X.prog X.w) X σ (WE W σ)) (hr : Room (k + 1) X.A) (hg : Gl X x) (ha : PA X (e :: es) t) (hdb : (x == ("__debug__" : Str)) = false := by decide)
    (he : starEach (e :: es) X.env = (false, eval e X.env) :: starEach es X.env := by rfl) (hpl : (backTo pos (starEach es X.env)).any (·.1) = false := by rfl) : PE X (.Call (.Name x p) (e :: es) [] pos) (tMkX X.K c x gs sp W t) := by
  obtain ⟨f, fd, hM, hb, F⟩ := M.ex
  refine ⟨fun pins s σ H Q I h => ?_⟩
  refine wpAny_Call_Name_kw (ld_glob I hg CF.mg ?_ hdb)
  refine PySem.W.callWith_K (h₀ := X.base) I.ok.mod.kin hM.kp (thn (ha.run pos pins s σ H _ I h) fun us s1 ⟨vs, H1, I1, r, q⟩ => ⟨I1.kIn, ?_⟩) he hpl
  have hl : ∀ a : Addr, (Value.ref a :: us).length = ps.length := fun a => by
    have w := F.len _ _ _ _ (q CF.ok (s1.heap.objs.size + 1) s1.heap.objs.size (I1.hok.fresh (Nat.le_succ _)) (I1.hok.fresh (Nat.le_refl _)) (Nat.ne_of_lt (Nat.lt_succ_self _)))
    have l := r.length
    simp only [List.length_cons] at w ⊢
    omega
  have b : ∀ (s2 : Shared) (a : Addr), X.K.In s2.heap → BindsTo s2 fd ⟨Value.ref a :: us, ([] : List Str).zip ([] : List Value)⟩ (ps.zip (Value.ref a :: us)) := fun s2 a ki => by
    have z := hb s2 (Value.ref a :: us) ki (by rw [List.append_nil]; exact hl a)
    rw [List.append_nil] at z
    exact z
  exact run_mkS (ks := []) (ws := []) (zs := []) (g := fun us _ => us) (gV := fun vs _ => vs) hM F hr (fun s2 ki => b s2 _ ki) (fun _ => .cons rfl r) (hx σ) I1 (q CF.ok) b
theorem z_makeK {CX : CXT} {ks : List Str} {kws : List Keyword} {ms : List Cst} {sel : List (Bool × Nat)} {nk : Nat} (CF : ClsF X.K X.mg c x gs) (M : MkrK CX X.prog X.w X.K X.mg X.base k (c.cls x) ps sp n ks ms sel) (hx : ∀ σ, PassesAt CX X σ (WE W σ)) (hr : Room (k + 1) X.A) (hg : Gl X x) (ha : PA X (e :: es) t) (hkw : PK X kws tk)
    (hnk : ks.length = nk := by rfl) (hall : (backToKw pos (keywordEach kws X.env)).all (·.1.isSome) = true := by rfl) (hks : (backToKw pos (keywordEach kws X.env)).filterMap (·.1) = ks := by rfl) (hdb : (x == ("__debug__" : Str)) = false := by decide)
    (he : starEach (e :: es) X.env = (false, eval e X.env) :: starEach es X.env := by rfl) (hpl : ((backTo pos (starEach (e :: es) X.env)).any (·.1) || (backToKw pos (keywordEach kws X.env)).any (·.1.isNone)) = false := by rfl) :
    PE X (.Call (.Name x p) (e :: es) kws pos) (tMkK X.K c x gs n nk ms sel sp W t tk) := by
  subst hnk
  obtain ⟨f, fd, g, ds, hM, hds, hb, F⟩ := M.ex
  refine ⟨fun pins s σ H Q I h => ?_⟩
  refine wpAny_Call_Name_kw (ld_glob I hg CF.mg ?_ hdb)
  refine PySem.W.callWith_KW (h₀ := X.base) I.ok.mod.kin hM.kp hall (thn (ha.run pos pins s σ H _ I h) fun us s1 ⟨vs, H1, I1, r, q⟩ => ?_) hpl he
  refine thn (hkw.run pos pins s1 σ H1 _ I1 q) fun ws s2 ⟨zs, H2, I2, rz, l1, l2, q2⟩ => ⟨I2.kIn, ?_⟩
  rw [hks]
  have n1 : ∀ a : Addr, (Value.ref a :: us).length = n + 1 := fun a => by rw [List.length_cons, ← r.length, l1]
  exact run_mkS (g := g) (gV := fun vs zs => gSel sel vs ds zs) hM F hr (fun s3 ki => hb.to s3 _ ws ki (n1 _) (rz.length.symm.trans l2)) (fun a => hb.rel (.cons rfl r) rz) (hx σ) I2 (q2 CF.ok ds hds) (fun s3 a ki => hb.to s3 _ ws ki (n1 _) (rz.length.symm.trans l2))
theorem z_raise {j : Nat} {p2 pos' : Pos} (hc : X.calm = true) (E : ExcF X.K X.mg c x) (tk : Takes X W) (hg : Gl X x) (hdb : (x == ("__debug__" : Str)) = false := by decide) : PS X (.Raise (some (.Call (.Name x p) [.Constant (.str m) j p2] [] pos)) none pos') (sRaise c x W) :=
  ps_raise hc tk (pmk_own F.excBase_ValueError E.q E.mg E.kp (raises_own E.sb E.ty) hg hdb)
end
section
variable {K : PySem.W.Frag} {c : CEnv} {x y m : Str} {gs : List Str} {H : Hp} {Q : VK} {σ : L2.St} {t tk : TA} {ta : TE} {sp : Sp} {W : WX} {D : Ends}
theorem z_calS (k : t σ H fun vs H1 => sp vs H1 Q (WE W σ)) : tCallS sp (WE W) t σ H Q := k
theorem z_mkX (k : t σ H fun vs H1 => ClsOk K c x gs → ∀ p dx, H1 p = none → H1 dx = none → dx ≠ p → sp (.ref p :: vs) (upd (upd H1 dx (.own p)) p (.ins (c.cls x) dx [])) (fun v H2 => v = .non ∧ Q (.ref p) H2) (WE W σ)) : tMkX K c x gs sp W t σ H Q := k
theorem z_mkK {n nk : Nat} {ms : List Cst} {sel : List (Bool × Nat)} (k : t σ H fun vs H1 => tk σ H1 fun zs H2 => vs.length = n ∧ zs.length = nk ∧ (ClsOk K c x gs → ∀ ds, All2 (Cst.Is K) ms ds → ∀ p dx, H2 p = none → H2 dx = none → dx ≠ p →
  sp (gSel sel (.ref p :: vs) ds zs) (upd (upd H2 dx (.own p)) p (.ins (c.cls x) dx [])) (fun v H3 => v = .non ∧ Q (.ref p) H3) (WE W σ))) : tMkK K c x gs n nk ms sel sp W t tk σ H Q := k
theorem z_mtX (k : ta σ H fun v H1 => ∃ a dx fs, v = .ref a ∧ H1 a = some (.ins (c.cls x) dx fs) ∧ fs.lookup m = none ∧ t σ H1 fun vs H2 => sp (v :: vs) H2 Q (WE W σ)) : tMtX c x m sp W ta t σ H Q := k
theorem z_rse (k : W (.ref (c.cls x)) none σ H) : sRaise c x W D σ H := k
theorem z_tr {ys : List Str} {tb : WX → TS} {ts : TS} {Wo : WX} (k : (∀ y ∈ ys, PySem.W.exmOne K (.ref (c.cls y)) (.ref (c.cls x)) = some (SUB y x)) → tb (wOnly K (.ref (c.cls x)) (fun _ _ _ => ts) Wo D) D σ H) : sTry K c x ys tb ts Wo D σ H := k
end
section
variable {K : PySem.W.Frag} {H : Hp} {σ : L2.St}
end
theorem dec_rn {a : Addr} : decide (V.ref a = V.non) = false := decide_eq_false (fun z => by cases z)
theorem dec_in {a : Int} : decide (V.int a = V.non) = false := decide_eq_false (fun z => by cases z)
theorem dec_sn {a : Str} : decide (V.str a = V.non) = false := decide_eq_false (fun z => by cases z)
theorem dec_bn {a : Bool} : decide (V.bl a = V.non) = false := decide_eq_false (fun z => by cases z)
def tCstT (K : PySem.W.Frag) (xs : List V) : TE := fun σ H Q => ∀ T, (∀ H, SqT K H T xs) → Q (.ref T) H
theorem z_gtup {X : Cx} {x : Str} {xs : List V} {pos : Pos} (hm : ∃ T, X.mg x = some (.ref T) ∧ ∀ H, SqT X.K H T xs) (hg : Gl X x) (hd : (x == ("__debug__" : Str)) = false := by decide) : PE X (.Name x pos) (tCstT X.K xs) := by
  obtain ⟨T, hm, hs⟩ := hm
  exact ⟨fun pins s σ H Q I h => ld_glob I hg hm ⟨.ref T, H, I, rfl, h T hs⟩ hd⟩
theorem z_cstT {K : PySem.W.Frag} {xs : List V} {σ : L2.St} {H : Hp} {Q : VK} (k : ∀ T, (∀ H, SqT K H T xs) → Q (.ref T) H) : tCstT K xs σ H Q := k
theorem sqT_lit {K : PySem.W.Frag} {T : Addr} {dd : Option Addr} {its : List Value} {n : Nat} {sl : Array (Option Value)} {xs : List V} (l : K.lookup T = some ⟨.type "tuple", dd, .seq its.toArray n, sl⟩) (h : Vals xs its) (hs : xs.length ≤ 1000) : ∀ H, SqT K H T xs := fun H =>
  .inr ⟨_, _, _, l, rfl, rfl, by have := h.length; simp; exact Nat.le_trans (by omega : its.length ≤ 1000) (by decide), by simpa using h⟩
local macro_rules | `(tactic| walk_at "z") => `(tactic| with_reducible first
  | refine z_calS ?_ | refine z_mkX ?_ | refine z_mkK ?_ | refine z_mtX ?_ | refine z_rse ?_ | (refine z_tr ?_; intro _) | (refine z_cstT ?_; intro _ _) | refine z_forEA ?_ | refine z_lenSet ?_)
local macro_rules | `(tactic| walk_at "zy") => `(tactic| repeat (first | walk_at "z" | walk_at "zd" | rw [decide_eq_true rfl] | rw [dec_rn] | rw [dec_in] | rw [dec_sn] | rw [dec_bn]))

inductive DV where
  | v (x : V)
  | t (xs : List V)
def DV.Is (K : PySem.W.Frag) : DV → V → Prop
  | .v x, u => u = x
  | .t xs, u => ∃ T, u = .ref T ∧ ∀ H, SqT K H T xs
structure KD (K : PySem.W.Frag) (w : World) (mg : Str → Option Value) (x : Str) (l : List (Str × DV)) : Prop where
  ex : ∃ (d : Addr) (es : Array DictEntry) (n : Nat), mg x = some (.ref d) ∧ KDict K w d es n ∧ ∀ z : Str, (l.lookup z = none → PySem.W.nsIn K d z = some none) ∧ ∀ dv, l.lookup z = some dv → ∃ u v, PySem.W.nsIn K d z = some (some u) ∧ RelV v u ∧ dv.Is K v
def tKin (l : List (Str × DV)) (ta : TE) : TE := fun σ H Q => ta σ H fun x H1 => ∃ z, x = .str z ∧ Q (.bl (l.lookup z).isSome) H1
def tKout (l : List (Str × DV)) (ta : TE) : TE := fun σ H Q => ta σ H fun x H1 => ∃ z, x = .str z ∧ Q (.bl (!(l.lookup z).isSome)) H1
def tKix (K : PySem.W.Frag) (l : List (Str × DV)) (ta : TE) : TE := fun σ H Q => ta σ H fun x H1 => ∃ z dv, x = .str z ∧ l.lookup z = some dv ∧ ∀ v, dv.Is K v → Q v H1
section
variable {X : Cx} {x : Str} {l : List (Str × DV)} {p pos : Pos} {e : Expr} {te : TE}
theorem kd_get {K : PySem.W.Frag} {d : Addr} (h : ∀ z : Str, (l.lookup z = none → PySem.W.nsIn K d z = some none) ∧ ∀ dv, l.lookup z = some dv → ∃ u v, PySem.W.nsIn K d z = some (some u) ∧ RelV v u ∧ dv.Is K v) (z : Str) : ∃ r, PySem.W.nsIn K d z = some r ∧ r.isSome = (l.lookup z).isSome := by
  cases q : l.lookup z with
  | none => exact ⟨none, (h z).1 q, rfl⟩
  | some dv => obtain ⟨u, _, e, _⟩ := (h z).2 dv q; exact ⟨some u, e, rfl⟩
theorem kout_eq {d : Addr} {σ : L2.St} {H : Hp} {Q : VK} {K : PySem.W.Frag} (hz : ∀ z : Str, (l.lookup z = none → PySem.W.nsIn K d z = some none) ∧ ∀ dv, l.lookup z = some dv → ∃ u v, PySem.W.nsIn K d z = some (some u) ∧ RelV v u ∧ dv.Is K v) (h : tKout l te σ H Q) :
    tOp (fun x y H Q => ∃ (z : Str) (r : Option Value), x = .str z ∧ y = .ref d ∧ PySem.W.nsIn K d z = some r ∧ Q (.bl (!r.isSome)) H) te (tC (.ref d)) σ H Q := by
  have q : (fun (y : V) (H1 : Hp) => ∃ z, y = .str z ∧ Q (.bl (!(l.lookup z).isSome)) H1) = fun y H1 => ∃ (z : Str) (r : Option Value), y = .str z ∧ V.ref d = .ref d ∧ PySem.W.nsIn K d z = some r ∧ Q (.bl (!r.isSome)) H1 := by
    funext y H1
    refine propext ⟨fun ⟨z, ey, q⟩ => ?_, fun ⟨z, r, ey, _, er, q⟩ => ?_⟩
    · obtain ⟨r, er, es⟩ := kd_get hz z
      exact ⟨z, r, ey, rfl, er, by rw [es]; exact q⟩
    · obtain ⟨r', er', es⟩ := kd_get hz z
      rw [er] at er'; cases er'
      exact ⟨z, ey, by rw [← es]; exact q⟩
  show te σ H _
  exact (congrArg (te σ H) q) ▸ h
theorem z_koutP (D : KD X.K X.w X.mg x l) (he : PE X e te) (hg : Gl X x) (hd : (x == ("__debug__" : Str)) = false := by decide) : PT X (.Compare e [.NotIn] [.Name x p] pos) (tTest (tKout l te)) := by
  obtain ⟨d, es, n, hm, kd, hz⟩ := D.ex
  have a := pt_cmpR (pos := pos) (op_notIn_kd kd) he (pe_glob (v := .ref d) (pos := p) hg hm rfl hd) (by rfl)
  exact ⟨fun pins s σ H Q I h => a.run pins s σ H Q I (kout_eq hz h)⟩
end
theorem find_lit {K : PySem.W.Frag} {es : List DictEntry} {l : List (Str × DV)} (r : All2 (fun (e : DictEntry) (kv : Str × DV) => (∃ t, e.key = .str kv.1 t) ∧ ∃ v, RelV v e.val ∧ kv.2.Is K v) es l) (z : Str) :
    es.any (·.refKey) = false ∧ (l.lookup z = none → es.find? (·.key.isStr z) = none) ∧ ∀ dv, l.lookup z = some dv → ∃ e v, es.find? (·.key.isStr z) = some e ∧ RelV v e.val ∧ dv.Is K v := by
  induction r with
  | nil => exact ⟨rfl, fun _ => rfl, fun dv h => by cases h⟩
  | @cons e kv es l h _ ih =>
    obtain ⟨⟨t, ek⟩, v, rv, iv⟩ := h
    obtain ⟨k, dv0⟩ := kv
    have b : e.key.isStr z = (z == k) := by
      rw [ek]
      first
        | rfl
        | (rw [Bool.eq_iff_iff]; simp [Value.isStr]; exact ⟨fun h => h.symm, fun h => h.symm⟩)
        | (simp [Value.isStr, eq_comm])
    refine ⟨by rw [List.any_cons, ih.1, Bool.or_false]; unfold DictEntry.refKey; rw [ek], ?_, ?_⟩
    · intro h
      rw [List.lookup_cons] at h
      rw [List.find?_cons, b]
      cases q : z == k with
      | true => rw [q] at h; cases h
      | false => rw [q] at h; exact ih.2.1 h
    · intro dv h
      rw [List.lookup_cons] at h
      rw [List.find?_cons, b]
      cases q : z == k with
      | true => rw [q] at h; cases h; exact ⟨e, v, rfl, rv, iv⟩
      | false => rw [q] at h; exact ih.2.2 dv h
theorem kd_of {K : PySem.W.Frag} {w : World} {mg : Str → Option Value} {x : Str} {d : Addr} {es : List DictEntry} {n : Nat} {l : List (Str × DV)} (hm : mg x = some (.ref d)) (at_ : K.lookup d = some ⟨.type "dict", none, .dict es.toArray n, #[]⟩) (lit : PySem.W.KeysLit w.params es) (low : (d == sysModules) = false)
    (r : All2 (fun (e : DictEntry) (kv : Str × DV) => (∃ t, e.key = .str kv.1 t) ∧ ∃ v, RelV v e.val ∧ kv.2.Is K v) es l) : KD K w mg x l := by
  refine ⟨d, es.toArray, n, hm, ⟨at_, by simpa using lit, low⟩, fun z => ?_⟩
  obtain ⟨h1, h2, h3⟩ := find_lit r z
  unfold PySem.W.nsIn
  rw [at_]
  dsimp only
  refine ⟨fun q => ?_, fun dv q => ?_⟩
  · have e := h2 q
    simp only [e, h1]
    rfl
  · obtain ⟨e, v, e1, rv, iv⟩ := h3 dv q
    refine ⟨e.val, v, ?_, rv, iv⟩
    simp only [e1]
section
variable {K : PySem.W.Frag} {l : List (Str × DV)} {ta te : TE} {σ : L2.St} {H : Hp} {Q : VK} {g : TG} {tb : TS} {D : Ends} {x : Str} {b : Bool}
theorem z_kinT (k : ta σ H fun x H1 => ∃ z, x = .str z ∧ Q (.bl (l.lookup z).isSome) H1) : tKin l ta σ H Q := k
theorem z_koutT (k : ta σ H fun x H1 => ∃ z, x = .str z ∧ Q (.bl (!(l.lookup z).isSome)) H1) : tKout l ta σ H Q := k
theorem z_kixT (k : ta σ H fun x H1 => ∃ z dv, x = .str z ∧ l.lookup z = some dv ∧ ∀ v, dv.Is K v → Q v H1) : tKix K l ta σ H Q := k
theorem z_kst {P : Str → Prop} {x : Str} (k : P x) : ∃ z, V.str x = .str z ∧ P z := ⟨x, rfl, k⟩
def zForTx (g : TG) (tb : TS) (D : Ends) (σ : L2.St) (v : V) (H1 : Hp) : Prop := ∃ x, v = .str x ∧ ∃ W : Nat → Nat → L2.St → Hp → Prop, (∃ m, W 0 m σ H1) ∧ ∀ i m σ H, W i m σ H →
  ((Its x).stop i H ∧ D.nx σ H) ∨ ((Its x).go i H ∧ ∃ N : L2.St → Hp → Prop, (∀ σ' H', N σ' H' → ∃ m', m' < m ∧ W (i + 1) m' σ' H') ∧ ∀ y H', (Its x).yld i H y H' → g y σ H' fun σ2 H2 => tb { D with nx := N, ct := N, bk := D.nx } σ2 H2)
theorem z_forTx (k : te σ H fun v H1 => zForTx g tb D σ v H1) : tFor (iStr te) g tb D σ H := k
end
def hMany (c : CEnv) (l : List (Str × TS)) : List (Value × (Addr → Value → Option Addr → TS)) := l.map fun z => (.ref (c.cls z.1), fun _ _ _ => z.2)
def sTryM (K : PySem.W.Frag) (c : CEnv) (l : List (Str × TS)) (ys : List Str) (tb : WX → TS) (Wo : WX) : TS := fun D σ H =>
  (∀ x ∈ l.map (·.1), ∀ y ∈ ys, PySem.W.exmOne K (.ref (c.cls y)) (.ref (c.cls x)) = some (SUB y x)) → tb (wMany K Wo D (hMany c l)) D σ H
theorem z_trM {K : PySem.W.Frag} {c : CEnv} {l : List (Str × TS)} {ys : List Str} {tb : WX → TS} {Wo : WX} {D : Ends} {σ : L2.St} {H : Hp} (k : (∀ x ∈ l.map (·.1), ∀ y ∈ ys, PySem.W.exmOne K (.ref (c.cls y)) (.ref (c.cls x)) = some (SUB y x)) → tb (wMany K Wo D (hMany c l)) D σ H) : sTryM K c l ys tb Wo D σ H := k
theorem z_asgG {K : PySem.W.Frag} {te : TE} {n : Nat} {gs : TGs} {D : Ends} {σ : L2.St} {H : Hp} (k : te σ H fun x H1 => gTup K n gs x σ H1 D.nx) : tAsg te (gTup K n gs) D σ H := k
def uOrd : List V → Hp → VK → Prop := fun xs H Q => ∃ x, xs = [.str x] ∧ x.length = 1 ∧ Q (.int (x.cps.getD 0 0 : Nat)) H
theorem z_ord {c : Nat} {H : Hp} {Q : VK} (k : Q (.int (c : Nat)) H) : uOrd [.str ⟨#[c]⟩] H Q := ⟨_, rfl, rfl, k⟩
theorem z_isss {K : PySem.W.Frag} {H : Hp} {Q : VK} {x : Str} (k : Q (.bl true) H) : uIsi K [.str x, .ty "str"] H Q := ⟨_, _, true, .ty _, .base (.str x), rfl, k⟩
theorem z_issb {K : PySem.W.Frag} {H : Hp} {Q : VK} {x : Str} (k : Q (.bl false) H) : uIsi K [.str x, .ty "bool"] H Q := ⟨_, _, false, .ty _, .base (.str x), rfl, k⟩
theorem z_isis {K : PySem.W.Frag} {H : Hp} {Q : VK} {i : Int} (k : Q (.bl false) H) : uIsi K [.int i, .ty "str"] H Q := ⟨_, _, false, .ty _, .base (.int i), rfl, k⟩
theorem z_isbs {K : PySem.W.Frag} {H : Hp} {Q : VK} {b : Bool} (k : Q (.bl false) H) : uIsi K [.bl b, .ty "str"] H Q := ⟨_, _, false, .ty _, .base (.bl b), rfl, k⟩
def zLcTx (g : TG) (tt : TT) (te : TE) (vs : List Nat) (σ : L2.St) (v : V) (H1 : Hp) (Q : VK) : Prop := ∃ x, v = .str x ∧ ∀ C, H1 C = none → ∃ W : Nat → Nat → Hp → Prop, (∃ m, W 0 m (upd H1 C (.lst []))) ∧ ∀ i m H, W i m H →
  ((Its x).stop i H ∧ Q (.ref C) H) ∨ ((Its x).go i H ∧ ∃ Nx : Hp → Prop, (∀ H', Nx H' → ∃ m', m' < m ∧ W (i + 1) m' H') ∧ ∀ y H', (Its x).yld i H y H' → g y (wipe σ vs) H' fun σ2 H2 => wipe σ2 vs = wipe σ vs ∧ tt σ2 H2 fun b H3 =>
    if b = true then te σ2 H3 fun z H4 => ∃ acc, H4 C = some (.lst acc) ∧ acc.length < sizeLine ∧ Nx (upd H4 C (.lst (acc ++ [z]))) else Nx H3)
theorem z_lcTx {ti te : TE} {g : TG} {tt : TT} {vs : List Nat} {σ : L2.St} {H : Hp} {Q : VK} (k : ti σ H fun v H1 => zLcTx g tt te vs σ v H1 Q) : tLc (iStr ti) g tt te vs σ H Q := k
local macro_rules | `(tactic| walk_at "z") => `(tactic| with_reducible first
  | refine z_kinT ?_ | refine z_koutT ?_ | refine z_kixT ?_ | refine z_kst ?_ | refine z_forTx ?_ | refine z_asgG ?_ | (refine z_trM ?_; intro _) | refine z_ord ?_ | refine z_isss ?_ | refine z_issb ?_ | refine z_isis ?_ | refine z_isbs ?_ | refine z_lcTx ?_)

section
variable {X : Cx} {c : CEnv} {k : Nat} {x m : Str} {ps gs : List Str} {sp : Sp} {W : WX} {p pos apos : Pos} {e o : Expr} {es : List Expr} {t tk : TA} {ta : TE}
theorem z_methX {pl : Sem Bool} (he : PE X o ta) (CF : ClsF X.K X.mg c x gs) (M : MthX X.prog X.w X.K X.mg X.base k (c.cls x) m ps sp) (hx : ∀ σ, PassesAt (L2.CX X.prog X.w) X σ (WE W σ)) (hr : Room k X.A) (ha : PA X (e :: es) t)
    (hst : starEach (e :: es) X.env = (false, eval e X.env) :: starEach es X.env := by rfl) (hpl : (backTo pos (starEach es X.env)).any (·.1) = false := by rfl)
    (ht : eval (.Call (.Attribute o m apos) (e :: es) [] pos) X.env = (do
      let ov ← eval o X.env
      standAt apos.atName
      let (f, first) ← holding [ov] (getMethod ov m pl)
      callWith pos f first (backTo pos (starEach (e :: es) X.env)) (backToKw pos (keywordEach [] X.env))) := by rfl) : PE X (.Call (.Attribute o m apos) (e :: es) [] pos) (tMtX c x m sp W ta t) := by
  obtain ⟨f, fd, hM, hb, F⟩ := M.ex
  refine ⟨fun pins s σ H Q I h => ?_⟩
  refine PySem.W.methodCall_KW (pl := pl) (thn (he.run pins s σ H _ I h) fun u s1 ⟨x, H1, I1, rx, a, dx, fs, ex, ea, l, q⟩ => ?_) ht
  subst ex
  obtain rfl : u = Value.ref a := rx
  refine getmeth_ok I1 ea CF.ok.cl hM l ?_
  refine PySem.W.callWith_K (first := [.ref a]) (h₀ := X.base) I.ok.mod.kin hM.kp (thn (ha.run pos pins s1 σ H1 _ I1 q) fun us s2 ⟨vs, H2, I2, r, q2⟩ => ⟨I2.kIn, ?_⟩) hst hpl
  exact run_fnS (us := .ref a :: us) (vs := .ref a :: vs) F hr hb (hx σ) I2 (.cons rfl r) q2
end
def sRaiseA (c : CEnv) (x : Str) (te : TE) (W : WX) : TS := fun _ σ H => te σ H fun _ H1 => W (.ref (c.cls x)) none σ H1
theorem z_rsa {c : CEnv} {x : Str} {te : TE} {W : WX} {D : Ends} {σ : L2.St} {H : Hp} (k : te σ H fun _ H1 => W (.ref (c.cls x)) none σ H1) : sRaiseA c x te W D σ H := k
local macro_rules | `(tactic| walk_at "z") => `(tactic| with_reducible first
  | refine z_rsa ?_)

namespace ZN
open PySem PySem.Spec PyProof.Rows PySem.SeqAt Builtin
section
variable {prog : Program} {w : World} {A : Around} {E : Value → Shared → Prop} {s : Shared} {K : PySem.W.Frag} {x C L f : Addr} {ox : Obj} {od : Option Obj} {h₀ : Heap} {m : Str → Option Value} {b tb : Value}
end
end ZN
def RTy (K : PySem.W.Frag) (c : CEnv) (x : Str) (H : Hp) (v : V) : Prop :=
  (∃ b y dy gs, v = .ref b ∧ H b = some (.ins (c.cls y) dy gs) ∧ (y = x ∨ PySem.W.subIn K (.ref (c.cls y)) (.ref (c.cls x)) = some false)) ∨ v = .non ∨ (∃ i, v = .int i) ∨ (∃ b, v = .bl b) ∨ (∃ s, v = .str s) ∨ (∃ b xs, v = .ref b ∧ SqT K H b xs) ∨ (∃ b xs, v = .ref b ∧ SqL K H b xs)
theorem RTy.own {K : PySem.W.Frag} {c : CEnv} {x : Str} {H : Hp} {b dy : Addr} {gs : List (Str × V)} (h : H b = some (.ins (c.cls x) dy gs)) : RTy K c x H (.ref b) := .inl ⟨b, x, dy, gs, rfl, h, .inl rfl⟩
theorem RTy.non {K : PySem.W.Frag} {c : CEnv} {x : Str} {H : Hp} : RTy K c x H .non := .inr (.inl rfl)
theorem RTy.int {K : PySem.W.Frag} {c : CEnv} {x : Str} {H : Hp} {i : Int} : RTy K c x H (.int i) := .inr (.inr (.inl ⟨i, rfl⟩))
theorem RTy.tup {K : PySem.W.Frag} {c : CEnv} {x : Str} {H : Hp} {b : Addr} {xs : List V} (h : SqT K H b xs) : RTy K c x H (.ref b) := .inr (.inr (.inr (.inr (.inr (.inl ⟨b, xs, rfl, h⟩)))))
theorem RTy.lst {K : PySem.W.Frag} {c : CEnv} {x : Str} {H : Hp} {b : Addr} {xs : List V} (h : SqL K H b xs) : RTy K c x H (.ref b) := .inr (.inr (.inr (.inr (.inr (.inr ⟨b, xs, rfl, h⟩)))))
section
variable {X : Cx} {c : CEnv} {k : Nat} {x : Str} {ps gs : List Str} {sp : Sp}
theorem z_fldH {K : PySem.W.Frag} {c : CEnv} {x f : Str} {gs : List Str} {H : Hp} {Q : VK} {p dx : Addr} {fs : List (Str × V)} {v : V} (h : H p = some (.ins (c.cls x) dx fs)) (ok : ClsOk K c x gs) (l : fs.lookup f = some v) (n : gs.contains f = true) (k : Q v H) : zFld K f (.ref p) H Q := z_fld ok h l n k
theorem z_setH {K : PySem.W.Frag} {c : CEnv} {x f : Str} {gs : List Str} {H : Hp} {p dx : Addr} {fs : List (Str × V)} {N : Hp → Prop} {y : V} (h : H p = some (.ins (c.cls x) dx fs)) (ok : ClsOk K c x gs) (n : gs.contains f = true) (l : fs.length < 1000) (k : N (upd H p (.ins (c.cls x) dx (putF f y fs)))) : zSet K f y (.ref p) H N := z_set ok h n l k
end

local macro_rules | `(tactic| walk_at "z") => `(tactic| with_reducible first
  | ((show zFld _ _ _ _ _); refine z_fldH (by walk_at "lk") (by assumption) (by with_unfolding_all rfl) (by with_unfolding_all rfl) ?_)
  | ((show zSet _ _ _ _ _ _); refine z_setH (by walk_at "lk") (by assumption) (by with_unfolding_all rfl) (by with_unfolding_all exact of_decide_eq_true rfl) ?_))


open Classical in
noncomputable def hid (H : Hp) (ps : List Addr) : Hp := fun a => if a ∈ ps ∨ ∃ qs, H a = some (.tbl qs) then none else H a
def Nt (o : HO) : Prop := ∀ qs, o ≠ .tbl qs
def Pl (o : HO) : Prop := (∀ qs, o ≠ .tbl qs) ∧ ∀ f, o ≠ .ext f
def Occ (H : Hp) (ps : List Addr) : Prop := ∀ p ∈ ps, ∃ o, H p = some o ∧ Pl o
section
variable {K : PySem.W.Frag} {H H' : Hp} {p q : Addr} {o : HO} {ps qs : List Addr}
theorem hid_some {a : Addr} (e : hid H ps a = some o) : a ∉ ps ∧ H a = some o ∧ Nt o := by
  unfold hid at e
  split at e
  · cases e
  · rename_i h
    exact ⟨fun z => h (.inl z), e, fun qs z => h (.inr ⟨qs, by rw [e, z]⟩)⟩
theorem hid_in {a : Addr} (h : a ∈ ps) : hid H ps a = none := by unfold hid; rw [if_pos (.inl h)]
theorem hid_lk {a : Addr} (h : a ∉ ps) (e : H a = some o) (n : Nt o := by intro qs z; cases z) : hid H ps a = some o := by
  unfold hid
  rw [if_neg (fun z => ?_)]
  · exact e
  · rcases z with z | ⟨qs, z⟩
    · exact h z
    · rw [e] at z; cases z; exact n _ rfl
theorem hid_sub (h : ∀ a ∈ ps, a ∈ qs) : Same (hid H qs) (hid H ps) := fun a o e => by
  obtain ⟨h1, h2, h3⟩ := hid_some e
  exact hid_lk (fun z => h1 (h a z)) h2 h3
theorem hid_le : Same (hid H ps) H := fun a o e => (hid_some e).2.1
theorem hid_same (s : Same H H') : Same (hid H ps) (hid H' ps) := fun a o e => by
  obtain ⟨h1, h2, h3⟩ := hid_some e
  exact hid_lk h1 (s a o h2) h3
theorem hid_put (h : p ∈ ps) : hid (upd H p o) ps = hid H ps := by
  funext a
  by_cases c : a ∈ ps
  · rw [hid_in c, hid_in c]
  · have : upd H p o a = H a := upd_ne (fun z => c (z ▸ h))
    unfold hid
    rw [this]
theorem hid_new (h : H q = none) : Same (hid H ps) (hid (upd H q o) ps) := hid_same (Same.new h (Same.refl H))
theorem hid_of (h : H p = none) (s : Same (hid H ps) (hid H' ps)) : Same (hid H ps) (hid H' (p :: ps)) := fun a u e => by
  obtain ⟨h1, h2, h3⟩ := hid_some (s a u e)
  refine hid_lk (fun z => ?_) h2 h3
  rcases List.mem_cons.mp z with z | z
  · subst z; have := (hid_some e).2.1; rw [h] at this; cases this
  · exact h1 z
theorem hid_ofS (h : H p = none) (s : Same H H') : Same (hid H ps) (hid H' (p :: ps)) := hid_of h (hid_same s)
theorem pl_ins {k dx : Addr} {fs : List (Str × V)} : Pl (.ins k dx fs) := ⟨fun _ z => (nomatch z), fun _ z => (nomatch z)⟩
theorem Occ.nil : Occ H [] := fun _ h => by cases h
theorem Occ.cons (h : H p = some o) (t : Occ H ps) (n : Pl o := by exact ⟨fun _ z => (nomatch z), fun _ z => (nomatch z)⟩) : Occ H (p :: ps) := fun a ha => by
  rcases List.mem_cons.mp ha with rfl | ha
  · exact ⟨o, h, n⟩
  · exact t a ha
theorem Occ.same (s : Same H H') (h : Occ H ps) : Occ H' ps := fun a ha => (h a ha).imp fun _ e => ⟨s _ _ e.1, e.2⟩
theorem Occ.put (h : Occ H ps) (n : Pl o := by exact ⟨fun _ z => (nomatch z), fun _ z => (nomatch z)⟩) : Occ (upd H p o) ps := fun a ha => by
  by_cases c : a = p
  · subst c; exact ⟨o, upd_same, n⟩
  · obtain ⟨u, e, e2⟩ := h a ha; exact ⟨u, lk_ne c e, e2⟩
theorem Occ.no (h : Occ H ps) (hq : H q = none) : q ∉ ps := fun z => by obtain ⟨u, e, _⟩ := h q z; rw [hq] at e; cases e
def Fre (H : Hp) (a : Addr) : Prop := ∀ o, Nt o → H a ≠ some o
theorem Fre.of (h : H p = none) : Fre H p := fun o _ e => by rw [h] at e; cases e
theorem Occ.noF (h : Occ H ps) (hq : Fre H q) : q ∉ ps := fun z => by obtain ⟨u, e, n⟩ := h q z; exact hq u n.1 e
theorem tabs_put {T : List (Addr × Str)} {u : HO} (h : H p = some u) (n : Pl u) (t : LamX.Tabs T H) : LamX.Tabs T (upd H p o) := fun q hq => by
  obtain ⟨ps, h1, h2, h3⟩ := t q hq
  refine ⟨ps, lk_ne (fun z => ?_) h1, h2, fun pos cv hc => ?_⟩
  · rw [← z, h1] at h; cases h; exact n.1 _ rfl
  · obtain ⟨c, e1, e2⟩ := h3 pos cv hc
    refine ⟨c, e1, lk_ne (fun z => ?_) e2⟩
    rw [← z, e2] at h; cases h; exact n.2 _ rfl
theorem tabs_free {T : List (Addr × Str)} (h : H p = none) (t : LamX.Tabs T H) : LamX.Tabs T (upd H p o) := t.ext (Same.new h (Same.refl H))
end

inductive Da where
  | non | st | bl (b : Bool) | int (i : Int) | str (x : Str) | ty (n : String)
  | tup (l : List Da) | lst (l : List Da) | ins (x : Str) (ks : List Str) (l : List Da)
instance : Inhabited Da := ⟨.non⟩
def isStrV : V → Bool | .str _ => true | _ => false
def isIntV : V → Bool | .int _ => true | _ => false
def homV (xs : List V) : Bool := xs.all isStrV || xs.all isIntV
def SqD (K : PySem.W.Frag) (G : Hp) (a : Addr) (xs : List V) : Prop := G a = some (.tup xs) ∨ (SqT K G a xs ∧ homV xs = true)
theorem SqD.sq {K : PySem.W.Frag} {G : Hp} {a : Addr} {xs : List V} (h : SqD K G a xs) : SqT K G a xs := h.elim SqT.of (·.1)
theorem SqD.of {K : PySem.W.Frag} {G : Hp} {a : Addr} {xs : List V} (h : G a = some (.tup xs)) : SqD K G a xs := .inl h
theorem SqD.same {K : PySem.W.Frag} {G G' : Hp} {a : Addr} {xs : List V} (s : Same G G') (h : SqD K G a xs) : SqD K G' a xs := h.elim (fun e => .inl (s _ _ e)) fun e => .inr ⟨Same.sqT s e.1, e.2⟩
mutual
inductive Rp (K : PySem.W.Frag) (c : CEnv) (S : Option Addr) (G : Hp) : V → Da → Prop
  | non : Rp K c S G .non .non
  | st {a : Addr} : S = some a → Rp K c S G (.ref a) .st
  | bl (b : Bool) : Rp K c S G (.bl b) (.bl b)
  | int (i : Int) : Rp K c S G (.int i) (.int i)
  | str (x : Str) : Rp K c S G (.str x) (.str x)
  | ty (n : String) : Rp K c S G (.ty n) (.ty n)
  | tup {a : Addr} {xs : List V} {ds : List Da} : SqD K G a xs → RpA K c S G xs ds → Rp K c S G (.ref a) (.tup ds)
  | lst {a : Addr} {xs : List V} {ds : List Da} : G a = some (.lst xs) → RpA K c S G xs ds → Rp K c S G (.ref a) (.lst ds)
  | ins {a dx : Addr} {x : Str} {ks : List Str} {xs : List V} {ds : List Da} : ClsOk K c x ks → G a = some (.ins (c.cls x) dx (ks.zip xs)) → ds.length = ks.length → RpA K c S G xs ds → Rp K c S G (.ref a) (.ins x ks ds)
inductive RpA (K : PySem.W.Frag) (c : CEnv) (S : Option Addr) (G : Hp) : List V → List Da → Prop
  | nil : RpA K c S G [] []
  | cons {v : V} {vs : List V} {d : Da} {ds : List Da} : Rp K c S G v d → RpA K c S G vs ds → RpA K c S G (v :: vs) (d :: ds)
end
section
variable {K : PySem.W.Frag} {c : CEnv} {S : Option Addr} {G G' : Hp} {v : V} {d : Da} {vs : List V} {ds : List Da}
mutual
theorem Rp.same (s : Same G G') : ∀ (d : Da) (v : V), Rp K c S G v d → Rp K c S G' v d
  | .non, _, h => by cases h; exact .non
  | .st, _, h => by cases h with | st e => exact .st e
  | .bl b, _, h => by cases h; exact .bl b
  | .int i, _, h => by cases h; exact .int i
  | .str x, _, h => by cases h; exact .str x
  | .ty n, _, h => by cases h; exact .ty n
  | .tup ds, _, h => by cases h with | tup hs ha => exact .tup (hs.same s) (RpA.same s ds _ ha)
  | .lst ds, _, h => by cases h with | lst hs ha => exact .lst (s _ _ hs) (RpA.same s ds _ ha)
  | .ins x ks ds, _, h => by cases h with | ins ok hs hl ha => exact .ins ok (s _ _ hs) hl (RpA.same s ds _ ha)
theorem RpA.same (s : Same G G') : ∀ (ds : List Da) (vs : List V), RpA K c S G vs ds → RpA K c S G' vs ds
  | [], _, h => by cases h; exact .nil
  | d :: ds, _, h => by cases h with | cons h1 h2 => exact .cons (Rp.same s d _ h1) (RpA.same s ds _ h2)
end
theorem rpS (s : Same G G') (h : Rp K c S G v d) : Rp K c S G' v d := Rp.same s d v h
theorem rpsS (s : Same G G') (h : RpA K c S G vs ds) : RpA K c S G' vs ds := RpA.same s ds vs h
theorem rpT (h : Rp K c S G v (.tup ds)) : ∃ a xs, v = .ref a ∧ SqT K G a xs ∧ RpA K c S G xs ds := by
  cases h with
  | tup hs ha => exact ⟨_, _, rfl, hs.sq, ha⟩
theorem rpL (h : Rp K c S G v (.lst ds)) : ∃ a xs, v = .ref a ∧ G a = some (.lst xs) ∧ RpA K c S G xs ds := by
  cases h with
  | lst hs ha => exact ⟨_, _, rfl, hs, ha⟩
theorem rpO {x : Str} {ks : List Str} (h : Rp K c S G v (.ins x ks ds)) : ∃ a dx xs, v = .ref a ∧ ClsOk K c x ks ∧ G a = some (.ins (c.cls x) dx (ks.zip xs)) ∧ ds.length = ks.length ∧ RpA K c S G xs ds := by
  cases h with
  | ins ok hs hl ha => exact ⟨_, _, _, rfl, ok, hs, hl, ha⟩
theorem rpB {b : Bool} (h : Rp K c S G v (.bl b)) : v = .bl b := by cases h; rfl
theorem rpSt (h : Rp K c S G v .st) : ∃ a, S = some a ∧ v = .ref a := by cases h with | st e => exact ⟨_, e, rfl⟩
theorem rps0 (h : RpA K c S G vs []) : vs = [] := by cases h; rfl
theorem rpsC (h : RpA K c S G vs (d :: ds)) : ∃ v ws, vs = v :: ws ∧ Rp K c S G v d ∧ RpA K c S G ws ds := by
  cases h with
  | cons h1 h2 => exact ⟨_, _, rfl, h1, h2⟩
theorem rpsC' {w : V} {ws : List V} (h : RpA K c S G (w :: ws) ds) : ∃ d es, ds = d :: es ∧ Rp K c S G w d ∧ RpA K c S G ws es := by
  cases h with
  | cons h1 h2 => exact ⟨_, _, rfl, h1, h2⟩
theorem rpsLen : ∀ {ds : List Da} {vs : List V}, RpA K c S G vs ds → vs.length = ds.length
  | [], _, h => by rw [rps0 h]; rfl
  | d :: ds, _, h => by obtain ⟨v, ws, rfl, _, h2⟩ := rpsC h; simp [rpsLen h2]
theorem rpsGet : ∀ {ds : List Da} {vs : List V} {i : Nat}, RpA K c S G vs ds → ds[i]? = some d → ∃ v, vs[i]? = some v ∧ Rp K c S G v d
  | [], _, _, _, h => by cases h
  | e :: ds, _, i, h, hi => by
    obtain ⟨v, ws, rfl, h1, h2⟩ := rpsC h
    cases i with
    | zero => cases hi; exact ⟨v, rfl, h1⟩
    | succ i => obtain ⟨u, a, b⟩ := rpsGet h2 (by simpa using hi); exact ⟨u, a, b⟩
theorem rpsGetV : ∀ {ds : List Da} {vs : List V} {i : Nat}, RpA K c S G vs ds → vs[i]? = some v → ∃ d, ds[i]? = some d ∧ Rp K c S G v d := by
  intro ds vs i h hi
  have hl := rpsLen h
  have := (List.getElem?_eq_some_iff.mp hi).1
  have e := List.getElem?_eq_getElem (show i < ds.length by omega)
  obtain ⟨u, e2, r⟩ := rpsGet h e
  rw [hi] at e2
  cases e2
  exact ⟨_, e, r⟩
theorem rpsApp : ∀ {ds : List Da} {vs : List V}, RpA K c S G vs ds → ∀ {es : List Da} {ws : List V}, RpA K c S G ws es → RpA K c S G (vs ++ ws) (ds ++ es)
  | [], _, h, _, _, h1 => by rw [rps0 h]; exact h1
  | _ :: _, _, h, _, _, h1 => by obtain ⟨u, ws, rfl, a, b⟩ := rpsC h; exact .cons a (rpsApp b h1)
theorem rpsOne (h : Rp K c S G v d) : RpA K c S G [v] [d] := .cons h .nil
end
inductive Mu where
  | d (x : Da) | l (ts : List Mu) | o (x : Str) (ks : List Str) (ts : List Mu) | h (v : V)
instance : Inhabited Mu := ⟨.d .non⟩
mutual
def Mu.da : Mu → Da
  | .d x => x
  | .l ts => .lst (Mu.das ts)
  | .o x ks ts => .ins x ks (Mu.das ts)
  | .h _ => .non
def Mu.das : List Mu → List Da
  | [] => []
  | t :: ts => t.da :: Mu.das ts
end
mutual
inductive RpM (K : PySem.W.Frag) (c : CEnv) (S : Option Addr) (H G : Hp) : V → Mu → List Addr → Prop
  | d {v : V} {x : Da} : Rp K c S G v x → RpM K c S H G v (.d x) []
  | l {a : Addr} {vs : List V} {ts : List Mu} {as : List Addr} : H a = some (.lst vs) → RpMs K c S H G vs ts as → RpM K c S H G (.ref a) (.l ts) (a :: as)
  | o {a dx : Addr} {x : Str} {ks : List Str} {vs : List V} {ts : List Mu} {as : List Addr} : ClsOk K c x ks → H a = some (.ins (c.cls x) dx (ks.zip vs)) → ts.length = ks.length → RpMs K c S H G vs ts as → RpM K c S H G (.ref a) (.o x ks ts) (a :: as)
  | h (v : V) : RpM K c S H G v (.h v) []
inductive RpMs (K : PySem.W.Frag) (c : CEnv) (S : Option Addr) (H G : Hp) : List V → List Mu → List Addr → Prop
  | nil : RpMs K c S H G [] [] []
  | cons {v : V} {vs : List V} {t : Mu} {ts : List Mu} {as bs : List Addr} : RpM K c S H G v t as → RpMs K c S H G vs ts bs → RpMs K c S H G (v :: vs) (t :: ts) (as ++ bs)
end
theorem Mu.das_len : ∀ ts : List Mu, (Mu.das ts).length = ts.length
  | [] => rfl
  | t :: ts => by rw [Mu.das, List.length_cons, Mu.das_len ts, List.length_cons]
section
variable {K : PySem.W.Frag} {c : CEnv} {S : Option Addr} {H H' G G' : Hp}
mutual
theorem RpM.mono (s : Same G G') : ∀ (T : Mu) (v : V) (as : List Addr), (∀ a ∈ as, ∀ o, H a = some o → H' a = some o) → RpM K c S H G v T as → RpM K c S H' G' v T as
  | .d x, _, _, _, h => by cases h with | d r => exact .d (rpS s r)
  | .l ts, _, _, k, h => by cases h with | l e r => exact .l (k _ (List.mem_cons_self ..) _ e) (RpMs.mono s ts _ _ (fun a m => k a (List.mem_cons_of_mem _ m)) r)
  | .o x ks ts, _, _, k, h => by cases h with | o ok e hl r => exact .o ok (k _ (List.mem_cons_self ..) _ e) hl (RpMs.mono s ts _ _ (fun a m => k a (List.mem_cons_of_mem _ m)) r)
  | .h _, _, _, _, h => by cases h; exact .h _
theorem RpMs.mono (s : Same G G') : ∀ (ts : List Mu) (vs : List V) (as : List Addr), (∀ a ∈ as, ∀ o, H a = some o → H' a = some o) → RpMs K c S H G vs ts as → RpMs K c S H' G' vs ts as
  | [], _, _, _, h => by cases h; exact .nil
  | t :: ts, _, _, k, h => by cases h with | cons r1 r2 => exact .cons (RpM.mono s t _ _ (fun a m => k a (List.mem_append_left _ m)) r1) (RpMs.mono s ts _ _ (fun a m => k a (List.mem_append_right _ m)) r2)
end
mutual
def Mu.full : Mu → Bool
  | .d _ => true
  | .l ts => Mu.fulls ts
  | .o _ _ ts => Mu.fulls ts
  | .h _ => false
def Mu.fulls : List Mu → Bool
  | [] => true
  | t :: ts => t.full && Mu.fulls ts
end
mutual
theorem RpM.view (s : Same G G') : ∀ (T : Mu) (v : V) (as : List Addr), T.full = true → (∀ a ∈ as, ∀ o, H a = some o → G' a = some o) → RpM K c S H G v T as → Rp K c S G' v T.da
  | .d x, _, _, _, _, h => by cases h with | d r => exact rpS s r
  | .l ts, _, _, f, k, h => by cases h with | l e r => exact .lst (k _ (List.mem_cons_self ..) _ e) (RpMs.view s ts _ _ f (fun a m => k a (List.mem_cons_of_mem _ m)) r)
  | .o x ks ts, _, _, f, k, h => by cases h with | o ok e hl r => exact .ins ok (k _ (List.mem_cons_self ..) _ e) ((Mu.das_len ts).trans hl) (RpMs.view s ts _ _ f (fun a m => k a (List.mem_cons_of_mem _ m)) r)
  | .h _, _, _, f, _, _ => nomatch f
theorem RpMs.view (s : Same G G') : ∀ (ts : List Mu) (vs : List V) (as : List Addr), Mu.fulls ts = true → (∀ a ∈ as, ∀ o, H a = some o → G' a = some o) → RpMs K c S H G vs ts as → RpA K c S G' vs (Mu.das ts)
  | [], _, _, _, _, h => by cases h; exact .nil
  | t :: ts, _, _, f, k, h => by
    have f : (t.full && Mu.fulls ts) = true := f
    rw [Bool.and_eq_true] at f
    cases h with | cons r1 r2 => exact .cons (RpM.view s t _ _ f.1 (fun a m => k a (List.mem_append_left _ m)) r1) (RpMs.view s ts _ _ f.2 (fun a m => k a (List.mem_append_right _ m)) r2)
end
end
inductive Pv where
  | d (x : Da) | own (l : List Da) | obj (x : Str) (gs ks : List Str) (l : List Da) | mu (b : Bool) (T : Mu)
    | dct (t : Bool) (l : List (List L2.Key × Da))
def dO (t : Bool) (kvs : List (List L2.Key × V)) : HO := if t = true then .dT kvs else .dK (kvs.map fun z => (z.1.headD (.inl 0), z.2))
abbrev PEnv := List (Option Pv)
structure Pw where
  S : Option (Addr × Addr)
  O : List Addr
  M : List Addr
  self : Option Addr := none
  par : Nat → Option V := fun _ => none
abbrev Pw.st (w : Pw) : Option Addr := w.S.map (·.1)
abbrev Ow := List (Nat × Addr)
abbrev hl (w : Pw) (ow : Ow) : List Addr := ow.map (·.2) ++ w.O
noncomputable abbrev dh (w : Pw) (ow : Ow) (H : Hp) : Hp := hid H (hl w ow)
def SlotOk (K : PySem.W.Frag) (c : CEnv) (w : Pw) (ow : Ow) (H : Hp) (σ : L2.St) (i : Nat) : Pv → Prop
  | .d x => ∃ v, σ[i]? = some (some v) ∧ Rp K c w.st (dh w ow H) v x
  | .own l => ∃ a vs, (i, a) ∈ ow ∧ σ[i]? = some (some (.ref a)) ∧ H a = some (.lst vs) ∧ RpA K c w.st (dh w ow H) vs l
  | .obj x gs ks l => ∃ a dx vs, (i, a) ∈ ow ∧ σ[i]? = some (some (.ref a)) ∧ (ClsOk K c x gs ∧ w.self = some a) ∧ H a = some (.ins (c.cls x) dx (ks.zip vs)) ∧ l.length = ks.length ∧ RpA K c w.st (dh w ow H) vs l
  | .dct t l => ∃ a vs, (i, a) ∈ ow ∧ σ[i]? = some (some (.ref a)) ∧ H a = some (dO t ((l.map (·.1)).zip vs)) ∧ (RpA K c w.st (dh w ow H) vs (l.map (·.2)) ∧ (t = false → ∀ z ∈ l, ∃ k, z.1 = [k]))
  | .mu b T => ∃ v as, σ[i]? = some (some v) ∧ (b = true → w.par i = some v) ∧ (∀ a ∈ as, (i, a) ∈ ow) ∧ as.Nodup ∧ RpM K c w.st H (dh w ow H) v T as
structure Rel (K : PySem.W.Frag) (c : CEnv) (w : Pw) (H0 B : Hp) (ow : Ow) (H : Hp) (σ : L2.St) (ρ : PEnv) : Prop where
  occ : Occ H (hl w ow)
  dr : ∀ st L, w.S = some (st, L) → Draw H st L ∧ st ∈ w.O ∧ st ∈ w.M
  nd : ∀ p ∈ ow, (∀ st L, w.S = some (st, L) → p.2 ≠ st ∧ p.2 ≠ L) ∧ p.2 ∉ w.O
  inj : ∀ p ∈ ow, ∀ q ∈ ow, p.2 = q.2 → p = q
  fr : ∀ a o, a ∉ w.M → Nt o → H0 a = some o → H a = some o
  fr2 : ∀ p ∈ ow, (∀ o, Nt o → H0 p.2 ≠ some o) ∨ p.2 ∈ w.M
  len : σ.length = ρ.length
  sl : ∀ i x, ρ[i]? = some (some x) → SlotOk K c w ow H σ i x
  bs : Same B (dh w ow H)
  tb : LamX.Tabs c.tb H
def Ex (S : Option (Addr × Addr)) (H H' : Hp) : Prop := (∀ a o, (∀ st L, S = some (st, L) → a ≠ st) → Nt o → H a = some o → H' a = some o) ∧ ∀ st L, S = some (st, L) → Draw H' st L
theorem Ex.of {S : Option (Addr × Addr)} {H H' : Hp} (s : Same H H') (d : ∀ st L, S = some (st, L) → Draw H st L) : Ex S H H' := ⟨fun a o _ _ e => s a o e, fun st L e => (d st L e).same s⟩
def ExC (c : CEnv) (S : Option (Addr × Addr)) (H H' : Hp) : Prop := Ex S H H' ∧ LamX.Tabs c.tb H'
theorem Ex.trans {S : Option (Addr × Addr)} {H H1 H2 : Hp} (x : Ex S H H1) (y : Ex S H1 H2) : Ex S H H2 := ⟨fun a o n t e => y.1 a o n t (x.1 a o n t e), y.2⟩
theorem Ex.lk {S : Option (Addr × Addr)} {H H' : Hp} (x : Ex S H H') {a : Addr} {o : HO} (ns : ∀ st L, S = some (st, L) → a ≠ st) (e : H a = some o) (n : Nt o := by exact fun _ z => (nomatch z)) : H' a = some o := x.1 a o ns n e
theorem Draw.occ {H : Hp} {st L : Addr} (d : Draw H st L) : ∃ o, H st = some o := by obtain ⟨_, _, _, e, _⟩ := d.ex; exact ⟨_, e⟩
theorem Draw.occP {H : Hp} {st L : Addr} (d : Draw H st L) : ∃ o, H st = some o ∧ Pl o := by obtain ⟨_, _, _, e, _⟩ := d.ex; exact ⟨_, e, ⟨fun _ z => (nomatch z), fun _ z => (nomatch z)⟩⟩
theorem Draw.occPL {H : Hp} {st L : Addr} (d : Draw H st L) : ∃ o, H L = some o ∧ Pl o := by obtain ⟨_, _, _, _, e, _⟩ := d.ex; exact ⟨_, e, ⟨fun _ z => (nomatch z), fun _ z => (nomatch z)⟩⟩
theorem Draw.occL {H : Hp} {st L : Addr} (d : Draw H st L) : ∃ o, H L = some o := by obtain ⟨_, _, _, _, e, _⟩ := d.ex; exact ⟨_, e⟩
section
variable {K : PySem.W.Frag} {c : CEnv} {w : Pw} {H0 B H H' : Hp} {ow : Ow} {σ : L2.St} {ρ : PEnv} {v : V} {d : Da}
theorem Occ.ex {S : Option (Addr × Addr)} {ps : List Addr} (x : Ex S H H') (h : Occ H ps) : Occ H' ps := fun a ha => by
  by_cases e : ∃ st L, S = some (st, L) ∧ a = st
  · obtain ⟨st, L, e, rfl⟩ := e
    exact (x.2 _ _ e).occP
  · obtain ⟨o, ho, n⟩ := h a ha
    exact ⟨o, x.1 a o (fun st L h z => e ⟨st, L, h, z⟩) n.1 ho, n⟩
theorem Ex.hid {S : Option (Addr × Addr)} {ps : List Addr} (x : Ex S H H') (hs : ∀ st L, S = some (st, L) → st ∈ ps) : Same (hid H ps) (hid H' ps) := fun a o e => by
  obtain ⟨m, e, n⟩ := hid_some e
  exact hid_lk m (x.1 a o (fun st L h z => m (z ▸ hs st L h)) n e) n
theorem Rel.stO (r : Rel K c w H0 B ow H σ ρ) : ∀ st L, w.S = some (st, L) → st ∈ hl w ow := fun st L e => List.mem_append_right _ (r.dr st L e).2.1
theorem Ex.dh (x : Ex w.S H H') (r : Rel K c w H0 B ow H σ ρ) : Same (dh w ow H) (dh w ow H') := x.hid r.stO
theorem Rel.notSt (r : Rel K c w H0 B ow H σ ρ) {p : Nat × Addr} (h : p ∈ ow) : ∀ st L, w.S = some (st, L) → p.2 ≠ st := fun st L e => ((r.nd p h).1 st L e).1
theorem SlotOk.imp {x : Pv} {i : Nat} (s : Same (dh w ow H) (dh w ow H')) (k : ∀ p ∈ ow, ∀ o, H p.2 = some o → H' p.2 = some o) (h : SlotOk K c w ow H σ i x) : SlotOk K c w ow H' σ i x := by
  cases x with
  | d x => obtain ⟨v, e, r⟩ := h; exact ⟨v, e, rpS s r⟩
  | own l => obtain ⟨a, vs, m, e, eh, r⟩ := h; exact ⟨a, vs, m, e, k _ m _ eh, rpsS s r⟩
  | dct t l => obtain ⟨a, vs, m, e, eh, ⟨r, oo⟩⟩ := h; exact ⟨a, vs, m, e, k _ m _ eh, ⟨rpsS s r, oo⟩⟩
  | obj x gs ks l => obtain ⟨a, dx, vs, m, e, ok, eh, hl, r⟩ := h; exact ⟨a, dx, vs, m, e, ok, k _ m _ eh, hl, rpsS s r⟩
  | mu b T => obtain ⟨v, as, e, p, m, n, r⟩ := h; exact ⟨v, as, e, p, m, n, r.mono s _ _ _ (fun a ha o eo => k _ (m a ha) o eo)⟩
theorem Rel.plO (r : Rel K c w H0 B ow H σ ρ) {p : Nat × Addr} (hp : p ∈ ow) : ∃ o, H p.2 = some o ∧ Pl o := r.occ _ (List.mem_append_left _ (List.mem_map_of_mem (f := (·.2)) hp))
theorem Rel.ntO (r : Rel K c w H0 B ow H σ ρ) {p : Nat × Addr} (hp : p ∈ ow) {o : HO} (e : H p.2 = some o) : Nt o := by obtain ⟨u, e2, n⟩ := r.plO hp; rw [e] at e2; cases e2; exact n.1
theorem Rel.ex (r : Rel K c w H0 B ow H σ ρ) (x : Ex w.S H H') (t : LamX.Tabs c.tb H') : Rel K c w H0 B ow H' σ ρ := by
  have s := x.dh r
  refine ⟨r.occ.ex x, fun st L e => ⟨x.2 st L e, (r.dr st L e).2⟩, r.nd, r.inj, fun a o n nt e => ?_, r.fr2, r.len, fun i y e => (r.sl i y e).imp s (fun p hp o e => x.1 _ _ (r.notSt hp) (by obtain ⟨u, e2, n⟩ := r.plO hp; rw [e] at e2; cases e2; exact n.1) e), Same.trans r.bs s, t⟩
  exact x.1 a o (fun st L h z => n (z ▸ (r.dr st L h).2.2)) nt (r.fr a o n nt e)
theorem Rel.exOf (r : Rel K c w H0 B ow H σ ρ) (s : Same H H') : Ex w.S H H' := Ex.of s fun st L e => (r.dr st L e).1
theorem Rel.same (r : Rel K c w H0 B ow H σ ρ) (s : Same H H') : Rel K c w H0 B ow H' σ ρ := r.ex (r.exOf s) (r.tb.ext s)
theorem Rel.new (r : Rel K c w H0 B ow H σ ρ) {p : Addr} {o : HO} (h : H p = none) : Rel K c w H0 B ow (upd H p o) σ ρ := r.same (Same.new h (Same.refl H))
theorem getElem?_set' {α : Type} {l : List α} {i j : Nat} {x : α} : (l.set i x)[j]? = if i = j then (if j < l.length then some x else none) else l[j]? := by
  by_cases h : i = j
  · subst h; rw [if_pos rfl]
    by_cases h2 : i < l.length
    · rw [if_pos h2, List.getElem?_set_self h2]
    · rw [if_neg h2]; exact List.getElem?_eq_none (by rw [List.length_set]; omega)
  · rw [if_neg h, List.getElem?_set_ne h]
theorem SlotOk.other {x : Pv} {i j : Nat} {y : Option V} (h : SlotOk K c w ow H σ i x) (ne : j ≠ i) : SlotOk K c w ow H (σ.set j y) i x := by
  cases x with
  | d x => obtain ⟨v, e, r⟩ := h; exact ⟨v, by rw [List.getElem?_set_ne ne]; exact e, r⟩
  | own l => obtain ⟨a, vs, m, e, eh, r⟩ := h; exact ⟨a, vs, m, by rw [List.getElem?_set_ne ne]; exact e, eh, r⟩
  | dct t l => obtain ⟨a, vs, m, e, eh, ⟨r, oo⟩⟩ := h; exact ⟨a, vs, m, ⟨by rw [List.getElem?_set_ne ne]; exact e, eh, r, oo⟩⟩
  | obj x gs ks l => obtain ⟨a, dx, vs, m, e, r⟩ := h; exact ⟨a, dx, vs, m, by rw [List.getElem?_set_ne ne]; exact e, r⟩
  | mu b T => obtain ⟨v, as, e, r⟩ := h; exact ⟨v, as, by rw [List.getElem?_set_ne ne]; exact e, r⟩
theorem Rel.set (r : Rel K c w H0 B ow H σ ρ) (i : Nat) (h : Rp K c w.st (dh w ow H) v d) : Rel K c w H0 B ow H (σ.set i (some v)) (ρ.set i (some (.d d))) := by
  refine ⟨r.occ, r.dr, r.nd, r.inj, r.fr, r.fr2, by rw [List.length_set, List.length_set]; exact r.len, fun j x e => ?_, r.bs, r.tb⟩
  rw [getElem?_set'] at e
  by_cases q : i = j
  · subst q
    rw [if_pos rfl] at e
    by_cases l : i < ρ.length
    · rw [if_pos l] at e
      cases e
      exact ⟨v, by rw [List.getElem?_set_self (by rw [r.len]; exact l)], h⟩
    · rw [if_neg l] at e; cases e
  · rw [if_neg q] at e
    exact (r.sl j x e).other q
theorem Rel.drop (r : Rel K c w H0 B ow H σ ρ) (i : Nat) (y : Option V) : Rel K c w H0 B ow H (σ.set i y) (ρ.set i none) := by
  refine ⟨r.occ, r.dr, r.nd, r.inj, r.fr, r.fr2, by rw [List.length_set, List.length_set]; exact r.len, fun j x e => ?_, r.bs, r.tb⟩
  rw [getElem?_set'] at e
  by_cases q : i = j
  · subst q
    rw [if_pos rfl] at e
    split at e <;> cases e
  · rw [if_neg q] at e
    exact (r.sl j x e).other q
theorem RpA.hide {S : Option Addr} {vs : List V} {l : List Da} {p : Addr} {ps : List Addr} (h : H p = none) (r : RpA K c S (hid H ps) vs l) (s : Same H H') : RpA K c S (hid H' (p :: ps)) vs l := rpsS (hid_ofS h s) r
theorem Rel.hide (r : Rel K c w H0 B ow H σ ρ) {p : Addr} {o : HO} {j : Nat} (h : H p = none) (np : Pl o := by exact ⟨fun _ z => (nomatch z), fun _ z => (nomatch z)⟩) : Rel K c w H0 B ((j, p) :: ow) (upd H p o) σ ρ := by
  have s : Same H (upd H p o) := Same.new h (Same.refl H)
  have sd : Same (dh w ow H) (dh w ((j, p) :: ow) (upd H p o)) := hid_ofS h s
  have fresh : ∀ q ∈ ow, q.2 ≠ p := fun q hq z => by
    obtain ⟨u, e, _⟩ := r.occ q.2 (List.mem_append_left _ (List.mem_map_of_mem hq))
    rw [z, h] at e; cases e
  refine ⟨Occ.cons (o := o) upd_same (r.occ.same s) np, fun st L e => ⟨(r.dr st L e).1.same s, (r.dr st L e).2⟩, ?_, ?_, fun a o' n t e => s _ _ (r.fr a o' n t e), ?_, r.len, fun i x e => ?_, Same.trans r.bs sd, r.tb.ext s⟩
  · intro q hq
    rcases List.mem_cons.mp hq with rfl | hq
    · refine ⟨fun st L e => ⟨fun z => ?_, fun z => ?_⟩, fun m => ?_⟩
      · subst z; obtain ⟨o', e'⟩ := (r.dr _ L e).1.occ; rw [h] at e'; cases e'
      · subst z; obtain ⟨o', e'⟩ := (r.dr st _ e).1.occL; rw [h] at e'; cases e'
      · obtain ⟨o', e', _⟩ := r.occ p (List.mem_append_right _ m); rw [h] at e'; cases e'
    · exact r.nd q hq
  · intro q hq q' hq' e
    rcases List.mem_cons.mp hq with rfl | hq
    · rcases List.mem_cons.mp hq' with rfl | hq'
      · rfl
      · exact absurd e.symm (fresh q' hq')
    · rcases List.mem_cons.mp hq' with rfl | hq'
      · exact absurd e (fresh q hq)
      · exact r.inj q hq q' hq' e
  · intro q hq
    rcases List.mem_cons.mp hq with rfl | hq
    · by_cases m : p ∈ w.M
      · exact .inr m
      · exact .inl fun u n e => by have := r.fr p u m n e; rw [h] at this; cases this
    · exact r.fr2 q hq
  · have k := r.sl i x e
    cases x with
    | d x => obtain ⟨v, e, rr⟩ := k; exact ⟨v, e, rpS sd rr⟩
    | own l => obtain ⟨a, vs, m, e, eh, rr⟩ := k; exact ⟨a, vs, List.mem_cons_of_mem _ m, e, s _ _ eh, rpsS sd rr⟩
    | dct t l => obtain ⟨a, vs, m, e, eh, ⟨rr, oo⟩⟩ := k; exact ⟨a, vs, List.mem_cons_of_mem _ m, e, s _ _ eh, ⟨rpsS sd rr, oo⟩⟩
    | obj x gs ks l => obtain ⟨a, dx, vs, m, e, ok, eh, hl, rr⟩ := k; exact ⟨a, dx, vs, List.mem_cons_of_mem _ m, e, ok, s _ _ eh, hl, rpsS sd rr⟩
    | mu b T => obtain ⟨v, as, e, q, m, n, rr⟩ := k; exact ⟨v, as, e, q, fun a ha => List.mem_cons_of_mem _ (m a ha), n, rr.mono sd _ _ _ fun a _ o eo => s a o eo⟩
theorem Rel.write (r : Rel K c w H0 B ow H σ ρ) {j : Nat} {p : Addr} {o : HO} (hm : (j, p) ∈ ow) (sl : ∀ i x, ρ[i]? = some (some x) → (i, p) ∈ ow → SlotOk K c w ow (upd H p o) σ i x) (np : Pl o := by exact ⟨fun _ z => (nomatch z), fun _ z => (nomatch z)⟩) : Rel K c w H0 B ow (upd H p o) σ ρ := by
  have hin : p ∈ hl w ow := List.mem_append_left _ (List.mem_map_of_mem (f := (·.2)) hm)
  have ed : dh w ow (upd H p o) = dh w ow H := hid_put hin
  refine ⟨r.occ.put np, fun st L e => ⟨Draw.put ((r.nd _ hm).1 st L e).1 ((r.nd _ hm).1 st L e).2 (r.dr st L e).1, (r.dr st L e).2⟩, r.nd, r.inj, fun a u n nt e => ?_, r.fr2, r.len, fun i x e => ?_, by rw [ed]; exact r.bs, by obtain ⟨u, e, n⟩ := r.plO hm; exact tabs_put e n r.tb⟩
  · have x := r.fr a u n nt e
    refine lk_ne (fun z => ?_) x
    subst z
    rcases r.fr2 _ hm with z | z
    · exact z u nt e
    · exact n z
  · by_cases q : (i, p) ∈ ow
    · exact sl i x e q
    · have k := r.sl i x e
      have ne : ∀ a, (i, a) ∈ ow → a ≠ p := fun a m z => q (z ▸ m)
      cases x with
      | d x => obtain ⟨v, e, rr⟩ := k; exact ⟨v, e, by rw [ed]; exact rr⟩
      | own l => obtain ⟨a, vs, m, e, eh, rr⟩ := k; exact ⟨a, vs, m, e, lk_ne (ne a m) eh, by rw [ed]; exact rr⟩
      | dct t l => obtain ⟨a, vs, m, e, eh, ⟨rr, oo⟩⟩ := k; exact ⟨a, vs, m, e, lk_ne (ne a m) eh, ⟨by rw [ed]; exact rr, oo⟩⟩
      | obj x gs ks l => obtain ⟨a, dx, vs, m, e, ok, eh, hl, rr⟩ := k; exact ⟨a, dx, vs, m, e, ok, lk_ne (ne a m) eh, hl, by rw [ed]; exact rr⟩
      | mu b T => obtain ⟨v, as, e, q, m, n, rr⟩ := k; exact ⟨v, as, e, q, m, n, by rw [ed]; exact rr.mono (Same.refl _) _ _ _ fun a ha o eo => lk_ne (ne a (m a ha)) eo⟩
end

abbrev WP := Str → PEnv → Prop
structure PD where
  nx : PEnv → Prop
  rt : Da → Prop
  bk : PEnv → Prop := fun _ => False
  ct : PEnv → Prop := fun _ => False
  rm : Pv → PEnv → Prop := fun _ _ => False
abbrev PEx := PEnv → (Da → Prop) → Prop
abbrev PTe := PEnv → (Bool → Prop) → Prop
abbrev PAr := PEnv → (List Da → Prop) → Prop
abbrev PSt := PD → PEnv → Prop
abbrev PTg := Da → PEnv → (PEnv → Prop) → Prop
abbrev PR2 := Da → Da → (Da → Prop) → Prop
abbrev PR1 := Da → (Da → Prop) → Prop
abbrev PRl := List Da → (Da → Prop) → Prop
abbrev PSp := List Da → (Da → Prop) → (Str → Prop) → Prop
abbrev PSi := List Da → (List Da → Prop) → (Str → Prop) → Prop
structure Cn where
  K : PySem.W.Frag
  c : CEnv
  W : WX
  Wp : WP
section
variable (N : Cn)
def AdW (w : Pw) (H0 B : Hp) : Prop := ∀ x ow H σ ρ, Rel N.K N.c w H0 B ow H σ ρ → N.Wp x ρ → N.W (.ref (N.c.cls x)) none σ H
def Post (w : Pw) (H0 B : Hp) (ow : Ow) (H : Hp) (σ : L2.St) (ρ : PEnv) (Q' : Da → Prop) (Q : VK) : Prop := ∀ v d H', Rel N.K N.c w H0 B ow H' σ ρ → Ex w.S H H' → Rp N.K N.c w.st (dh w ow H') v d → Q' d → Q v H'
def PostT (w : Pw) (H0 B : Hp) (ow : Ow) (H : Hp) (σ : L2.St) (ρ : PEnv) (Q' : Bool → Prop) (Q : Bool → Hp → Prop) : Prop := ∀ b H', Rel N.K N.c w H0 B ow H' σ ρ → Ex w.S H H' → Q' b → Q b H'
def PostA (w : Pw) (H0 B : Hp) (ow : Ow) (H : Hp) (σ : L2.St) (ρ : PEnv) (Q' : List Da → Prop) (Q : List V → Hp → Prop) : Prop := ∀ vs ds H', Rel N.K N.c w H0 B ow H' σ ρ → Ex w.S H H' → RpA N.K N.c w.st (dh w ow H') vs ds → Q' ds → Q vs H'
def SimE (t : TE) (p : PEx) : Prop := ∀ w H0 B, AdW N w H0 B → ∀ ow H σ ρ Q Q', Rel N.K N.c w H0 B ow H σ ρ → p ρ Q' → Post N w H0 B ow H σ ρ Q' Q → t σ H Q
def SimT (t : TT) (p : PTe) : Prop := ∀ w H0 B, AdW N w H0 B → ∀ ow H σ ρ Q Q', Rel N.K N.c w H0 B ow H σ ρ → p ρ Q' → PostT N w H0 B ow H σ ρ Q' Q → t σ H Q
def SimA (t : TA) (p : PAr) : Prop := ∀ w H0 B, AdW N w H0 B → ∀ ow H σ ρ Q Q', Rel N.K N.c w H0 B ow H σ ρ → p ρ Q' → PostA N w H0 B ow H σ ρ Q' Q → t σ H Q
def SimR (r : R2) (q : PR2) : Prop := ∀ w H0 B ow H σ ρ x y dx dy Q Q', Rel N.K N.c w H0 B ow H σ ρ → Rp N.K N.c w.st (dh w ow H) x dx → Rp N.K N.c w.st (dh w ow H) y dy → q dx dy Q' → Post N w H0 B ow H σ ρ Q' Q → r x y H Q
def SimL (r : List V → Hp → VK → Prop) (q : PRl) : Prop := ∀ w H0 B ow H σ ρ xs ds Q Q', Rel N.K N.c w H0 B ow H σ ρ → RpA N.K N.c w.st (dh w ow H) xs ds → q ds Q' → Post N w H0 B ow H σ ρ Q' Q → r xs H Q
def OutOk (K : PySem.W.Frag) (c : CEnv) (w : Pw) (ow : Ow) (H : Hp) (v : V) : Pv → Prop
  | .d d => Rp K c w.st (dh w ow H) v d
  | .mu _ T => ∃ as i, RpM K c w.st H (dh w ow H) v T as ∧ as.Nodup ∧ ∀ a ∈ as, (i, a) ∈ ow
  | _ => False
structure AdD (w : Pw) (H0 B : Hp) (D : Ends) (D' : PD) : Prop where
  nx : ∀ ow H σ ρ, Rel N.K N.c w H0 B ow H σ ρ → D'.nx ρ → D.nx σ H
  bk : ∀ ow H σ ρ, Rel N.K N.c w H0 B ow H σ ρ → D'.bk ρ → D.bk σ H
  ct : ∀ ow H σ ρ, Rel N.K N.c w H0 B ow H σ ρ → D'.ct ρ → D.ct σ H
  rt : ∀ ow H σ ρ v d, Rel N.K N.c w H0 B ow H σ ρ → Rp N.K N.c w.st (dh w ow H) v d → D'.rt d → D.rt v H
  rm : ∀ ow H σ ρ v x, Rel N.K N.c w H0 B ow H σ ρ → OutOk N.K N.c w ow H v x → D'.rm x ρ → D.rt v H
def SimS (t : TS) (p : PSt) : Prop := ∀ w H0 B, AdW N w H0 B → ∀ ow H σ ρ D D', AdD N w H0 B D D' → Rel N.K N.c w H0 B ow H σ ρ → p D' ρ → t D σ H
def SimG (g : TG) (sl : List Nat) (pg : PTg) : Prop := ∀ w H0 B ow H σ ρ v d Q Q', Rel N.K N.c w H0 B ow H σ ρ → Rp N.K N.c w.st (dh w ow H) v d → pg d ρ Q' → (∀ σ' ρ', Rel N.K N.c w H0 B ow H σ' ρ' → (∀ vs, (∀ i ∈ sl, i ∈ vs) → wipe σ' vs = wipe σ vs) → Q' ρ' → Q σ' H) → g v σ H Q
end
section
variable {N : Cn} {w : Pw} {H0 B H H' : Hp} {ow : Ow} {σ : L2.St} {ρ : PEnv}
theorem Rel.re {K : PySem.W.Frag} {c : CEnv} {B' : Hp} (r : Rel K c w H0 B' ow H σ ρ) (s : Same B B') : Rel K c w H0 B ow H σ ρ := ⟨r.occ, r.dr, r.nd, r.inj, r.fr, r.fr2, r.len, r.sl, Same.trans s r.bs, r.tb⟩
theorem AdW.re {B' : Hp} (a : AdW N w H0 B) (s : Same B B') : AdW N w H0 B' := fun x ow H σ ρ r q => a x ow H σ ρ (r.re s) q
theorem rpsAt {K : PySem.W.Frag} {c : CEnv} {S : Option Addr} {G : Hp} {vs : List V} {ds : List Da} {i : Int} {d : Da} (h : RpA K c S G vs ds) (e : atI ds i = some d) : ∃ v, atI vs i = some v ∧ Rp K c S G v d := by
  unfold atI at e ⊢
  rw [rpsLen h]
  cases q : ixN ds.length i with
  | none => rw [q] at e; cases e
  | some j =>
    rw [q] at e
    exact rpsGet h e
theorem Post.flat {Q' : Da → Prop} {Q : VK} {v : V} {d : Da} (k : Post N w H0 B ow H σ ρ Q' Q) (r : Rel N.K N.c w H0 B ow H σ ρ) (h : Rp N.K N.c w.st (dh w ow H) v d) (q : Q' d) : Q v H := k v d H r (r.exOf (Same.refl _)) h q
theorem Post.newL {Q' : Da → Prop} {Q : VK} {vs : List V} {ds : List Da} {p : Addr} (k : Post N w H0 B ow H σ ρ Q' Q) (r : Rel N.K N.c w H0 B ow H σ ρ) (h : RpA N.K N.c w.st (dh w ow H) vs ds) (q : Q' (.lst ds)) (hp : H p = none) : Q (.ref p) (upd H p (.lst vs)) :=
  k _ _ _ (r.new hp) (r.exOf (Same.new hp (Same.refl H))) (.lst (hid_lk (r.occ.no hp) upd_same) (rpsS (hid_new hp) h)) q
theorem Post.newT {Q' : Da → Prop} {Q : VK} {vs : List V} {ds : List Da} {p : Addr} (k : Post N w H0 B ow H σ ρ Q' Q) (r : Rel N.K N.c w H0 B ow H σ ρ) (h : RpA N.K N.c w.st (dh w ow H) vs ds) (q : Q' (.tup ds)) (hp : H p = none) : Q (.ref p) (upd H p (.tup vs)) :=
  k _ _ _ (r.new hp) (r.exOf (Same.new hp (Same.refl H))) (.tup (SqD.of (hid_lk (r.occ.no hp) upd_same)) (rpsS (hid_new hp) h)) q
theorem Post.then {Q' Q2 : Da → Prop} {Q : VK} (k : Post N w H0 B ow H σ ρ Q' Q) (s : Ex w.S H H') (i : ∀ d, Q2 d → Q' d) : Post N w H0 B ow H' σ ρ Q2 Q := fun v d H2 r s2 h q => k v d H2 r (Ex.trans s s2) h (i d q)
def pVar (i : Nat) : PEx := fun ρ Q => ∃ d, ρ[i]? = some (some (.d d)) ∧ Q d
def pC (d : Da) : PEx := fun _ Q => Q d
theorem sim_var (i : Nat) : SimE N (tVar i) (pVar i) := by
  intro w H0 B aw ow H σ ρ Q Q' r h k
  obtain ⟨d, e, q⟩ := h
  obtain ⟨v, ev, rv⟩ := r.sl i _ e
  exact ⟨v, ev, k.flat r rv q⟩
theorem sim_int (i : Int) : SimE N (tC (.int i)) (pC (.int i)) := fun w H0 B aw ow H σ ρ Q Q' r h k => k.flat r (.int i) h
theorem sim_str (i : Str) : SimE N (tC (.str i)) (pC (.str i)) := fun w H0 B aw ow H σ ρ Q Q' r h k => k.flat r (.str i) h
theorem sim_bl (i : Bool) : SimE N (tC (.bl i)) (pC (.bl i)) := fun w H0 B aw ow H σ ρ Q Q' r h k => k.flat r (.bl i) h
theorem sim_non : SimE N (tC .non) (pC .non) := fun w H0 B aw ow H σ ρ Q Q' r h k => k.flat r .non h
def pNil : PAr := fun _ Q => Q []
def pCons (a : PEx) (t : PAr) : PAr := fun ρ Q => a ρ fun x => t ρ fun xs => Q (x :: xs)
theorem sim_nil : SimA N tNil pNil := fun w H0 B aw ow H σ ρ Q Q' r h k => k [] [] H r (r.exOf (Same.refl _)) .nil h
theorem sim_cons {a : TE} {t : TA} {pa : PEx} {pt : PAr} (ha : SimE N a pa) (ht : SimA N t pt) : SimA N (tCons a t) (pCons pa pt) := by
  intro w H0 B aw ow H σ ρ Q Q' r h k
  refine ha w H0 B aw ow H σ ρ _ _ r h fun v d H1 r1 s1 h1 q1 => ?_
  refine ht w H0 B aw ow H1 σ ρ _ _ r1 q1 fun vs ds H2 r2 s2 h2 q2 => ?_
  exact k _ _ H2 r2 (Ex.trans s1 s2) (.cons (rpS (s2.dh r1) h1) h2) q2
def pLst (t : PAr) : PEx := fun ρ Q => t ρ fun ds => ds.length ≤ 100000 ∧ Q (.lst ds)
def pTup (t : PAr) : PEx := fun ρ Q => t ρ fun ds => ds.length ≤ 100000 ∧ Q (.tup ds)
theorem sim_lst {t : TA} {pt : PAr} (ht : SimA N t pt) : SimE N (tLst t) (pLst pt) := by
  intro w H0 B aw ow H σ ρ Q Q' r h k
  refine ht w H0 B aw ow H σ ρ _ _ r h fun vs ds H1 r1 s1 h1 ⟨l, q1⟩ => ⟨Nat.le_trans (by rw [rpsLen h1]; exact l) (by decide), fun p hp => ?_⟩
  exact (k.then s1 fun _ q => q).newL r1 h1 q1 hp
theorem sim_tup {t : TA} {pt : PAr} (ht : SimA N t pt) : SimE N (tTup t) (pTup pt) := by
  intro w H0 B aw ow H σ ρ Q Q' r h k
  refine ht w H0 B aw ow H σ ρ _ _ r h fun vs ds H1 r1 s1 h1 ⟨l, q1⟩ => ⟨Nat.le_trans (by rw [rpsLen h1]; exact l) (by decide), fun p hp => ?_⟩
  exact (k.then s1 fun _ q => q).newT r1 h1 q1 hp
def pOp (r : PR2) (a b : PEx) : PEx := fun ρ Q => a ρ fun x => b ρ fun y => r x y Q
def pUn (r : PR1) (a : PEx) : PEx := fun ρ Q => a ρ fun x => r x Q
def pCB (r : PRl) (a : PAr) : PEx := fun ρ Q => a ρ fun x => r x Q
theorem sim_op {r : R2} {q : PR2} {a b : TE} {pa pb : PEx} (hr : SimR N r q) (ha : SimE N a pa) (hb : SimE N b pb) : SimE N (tOp r a b) (pOp q pa pb) := by
  intro w H0 B aw ow H σ ρ Q Q' rr h k
  refine ha w H0 B aw ow H σ ρ _ _ rr h fun x dx H1 r1 s1 h1 q1 => ?_
  refine hb w H0 B aw ow H1 σ ρ _ _ r1 q1 fun y dy H2 r2 s2 h2 q2 => ?_
  exact hr w H0 B ow H2 σ ρ x y dx dy Q Q' r2 (rpS (s2.dh r1) h1) h2 q2 (k.then (Ex.trans s1 s2) fun _ q => q)
theorem sim_cb {r : List V → Hp → VK → Prop} {q : PRl} {a : TA} {pa : PAr} (hr : SimL N r q) (ha : SimA N a pa) : SimE N (tCB r a) (pCB q pa) := by
  intro w H0 B aw ow H σ ρ Q Q' rr h k
  refine ha w H0 B aw ow H σ ρ _ _ rr h fun x dx H1 r1 s1 h1 q1 => ?_
  exact hr w H0 B ow H1 σ ρ x dx Q Q' r1 h1 q1 (k.then s1 fun _ q => q)
def pAdd : PR2 := fun x y Q => match x, y with
  | .int i, .int j => Q (.int (i + j))
  | .str a, .str b => a.length + b.length ≤ 100000 ∧ Q (.str (a ++ b))
  | .lst a, .lst b => a.length + b.length ≤ 100000 ∧ Q (.lst (a ++ b))
  | .tup a, .tup b => a.length + b.length ≤ 100000 ∧ Q (.tup (a ++ b))
  | _, _ => False
theorem sim_add : SimR N (uAdd N.K) pAdd := by
  intro w H0 B ow H σ ρ x y dx dy Q Q' r hx hy h k
  cases dx <;> cases dy <;> first | exact h.elim | skip
  · cases hx; cases hy; exact k.flat r (.int _) h
  · cases hx; cases hy; exact ⟨Nat.le_trans h.1 (by decide), k.flat r (.str _) h.2⟩
  · obtain ⟨a, xs, rfl, e1, r1⟩ := rpT hx
    obtain ⟨b, ys, rfl, e2, r2⟩ := rpT hy
    refine .inr ⟨a, b, xs, ys, rfl, rfl, Same.sqT hid_le e1, Same.sqT hid_le e2, Nat.le_trans (by rw [rpsLen r1, rpsLen r2]; exact h.1) (by decide), ?_⟩
    have ra := rpsApp r1 r2
    refine ⟨fun z => ?_, fun z1 z2 => ?_, fun _ _ p hp => k.newT r ra h.2 hp⟩
    · subst z
      have := rpsLen r1
      rw [List.length_nil] at this
      obtain rfl := List.length_eq_zero_iff.mp this.symm
      exact k.flat r hy (by simpa using h.2)
    · subst z2
      have := rpsLen r2
      rw [List.length_nil] at this
      obtain rfl := List.length_eq_zero_iff.mp this.symm
      exact k.flat r hx (by simpa using h.2)
  · obtain ⟨a, xs, rfl, e1, r1⟩ := rpL hx
    obtain ⟨b, ys, rfl, e2, r2⟩ := rpL hy
    exact .inl ⟨a, b, xs, ys, rfl, rfl, hid_le _ _ e1, hid_le _ _ e2, Nat.le_trans (by rw [rpsLen r1, rpsLen r2]; exact h.1) (by decide), fun p hp => k.newL r (rpsApp r1 r2) h.2 hp⟩
def pSub : PR2 := fun x y Q => match x, y with
  | .int i, .int j => Q (.int (i - j))
  | _, _ => False
def pMul : PR2 := fun x y Q => match x, y with
  | .int i, .int j => MulOk i j ∧ Q (.int (i * j))
  | _, _ => False
def pDiv : PR2 := fun x y Q => match x, y with
  | .int i, .int j => CDivW i j ∧ Q (.int (i / j))
  | _, _ => False
def pMod : PR2 := fun x y Q => match x, y with
  | .int i, .int j => 0 < j ∧ Q (.int (i % j))
  | _, _ => False
def pPow : PR2 := fun x y Q => match x, y with
  | .int i, .int j => CPow i j ∧ Q (.int (i ^ j.toNat))
  | _, _ => False
def pNeg : PR1 := fun x Q => match x with
  | .int i => Q (.int (-i))
  | _ => False
def pLt : PR2 := fun x y Q => match x, y with
  | .int i, .int j => Q (.bl (decide (i < j)))
  | .str i, .str j => Q (.bl (decide (i.cps.toList < j.cps.toList)))
  | .tup [.int i, .str x], .tup [.int j, .str y] => Q (.bl (if i = j then decide (x.cps.toList < y.cps.toList) else decide (i < j)))
  | _, _ => False
def pLe : PR2 := fun x y Q => match x, y with
  | .int i, .int j => Q (.bl (decide (i ≤ j)))
  | .str i, .str j => Q (.bl (!decide (j.cps.toList < i.cps.toList)))
  | _, _ => False
def pGt : PR2 := fun x y Q => match x, y with
  | .int i, .int j => Q (.bl (decide (j < i)))
  | .str i, .str j => Q (.bl (decide (j.cps.toList < i.cps.toList)))
  | _, _ => False
def pGe : PR2 := fun x y Q => match x, y with
  | .int i, .int j => Q (.bl (decide (j ≤ i)))
  | .str i, .str j => Q (.bl (!decide (i.cps.toList < j.cps.toList)))
  | _, _ => False
theorem sim_lt : SimR N (uLt N.K) pLt := by
  intro w H0 B ow H σ ρ x y dx dy Q Q' r hx hy h k
  unfold pLt at h
  split at h
  · cases hx; cases hy; exact k.flat r (.bl _) h
  · cases hx; cases hy; exact k.flat r (.bl _) h
  · obtain ⟨a, xs, rfl, e1, r1⟩ := rpT hx
    obtain ⟨b, ys, rfl, e2, r2⟩ := rpT hy
    obtain ⟨v1, w1, rfl, a1, r1⟩ := rpsC r1
    obtain ⟨v2, w2, rfl, a2, r1⟩ := rpsC r1
    obtain ⟨u1, z1, rfl, b1, r2⟩ := rpsC r2
    obtain ⟨u2, z2, rfl, b2, r2⟩ := rpsC r2
    obtain rfl := rps0 r1
    obtain rfl := rps0 r2
    cases a1; cases a2; cases b1; cases b2
    exact z_ltIS (Same.sqT hid_le e1) (Same.sqT hid_le e2) (k.flat r (.bl _) h)
  · exact h.elim
theorem sim_le : SimR N uLe pLe := by
  intro w H0 B ow H σ ρ x y dx dy Q Q' r hx hy h k
  cases dx <;> cases dy <;> first | exact h.elim | skip
  · cases hx; cases hy; exact k.flat r (.bl _) h
  · cases hx; cases hy; exact k.flat r (.bl _) h
theorem sim_ge : SimR N uGe pGe := by
  intro w H0 B ow H σ ρ x y dx dy Q Q' r hx hy h k
  cases dx <;> cases dy <;> first | exact h.elim | skip
  · cases hx; cases hy; exact k.flat r (.bl _) h
  · cases hx; cases hy; exact k.flat r (.bl _) h
end

def eq0 : Da → Da → Bool
  | .non, .non => true
  | .bl a, .bl b => decide (a = b)
  | .bl a, .int j => decide ((if a then 1 else 0) = j)
  | .int i, .bl b => decide (i = (if b then 1 else 0))
  | .int i, .int j => decide (i = j)
  | .str x, .str y => decide (x = y)
  | _, _ => false
def kd0 : Da → Nat
  | .bl _ => 1 | .str _ => 2 | _ => 0
def eqF1 : Da → Da → Bool
  | .tup [a, u], .tup [b, v] => eq0 a b && (decide (kd0 u = kd0 v) && eq0 u v)
  | _, _ => false
def eqF : Da → Da → Bool
  | .tup l, .tup m => (List.zipWith eqF1 l m).all id && (l.length == m.length)
  | _, _ => false
mutual
def eqD : Da → Da → Bool
  | .tup xs, .tup ys => eqDs xs ys
  | .lst xs, .lst ys => eqDs xs ys
  | .ins x ks xs, .ins y ls ys => decide (x = y) && decide (ks = ls) && (if x = "Record" then eqRs 0 xs ys else eqDs xs ys)
  | .st, .st => true
  | .ty n, .ty m => decide (n = m)
  | x, y => eq0 x y
def eqDs : List Da → List Da → Bool
  | [], [] => true
  | x :: xs, y :: ys => eqD x y && eqDs xs ys
  | [], _ :: _ => false
  | _ :: _, [] => false
def eqRs : Nat → List Da → List Da → Bool
  | _, [], [] => true
  | i, x :: xs, y :: ys => (if i = 2 then eqF x y else eqD x y) && eqRs (i + 1) xs ys
  | _, [], _ :: _ => false
  | _, _ :: _, [] => false
end
def flD : Da → Bool
  | .non => true | .bl _ => true | .int _ => true | .str _ => true | _ => false
mutual
def Cq : Nat → Da → Da → Prop
  | 0, x, y => flD x = true ∧ flD y = true
  | n + 1, .tup a, .tup b => Cqs n a b
  | n + 1, .lst a, .lst b => Cqs n a b
  | _ + 1, x, y => flD x = true ∧ flD y = true
def Cqs : Nat → List Da → List Da → Prop
  | n, x :: a, y :: b => Cq n x y ∧ Cqs n a b
  | _, _, _ => True
end
theorem Cqs.of {n : Nat} : ∀ {a b : List Da}, (∀ (i : Nat) (x y : Da), a[i]? = some x → b[i]? = some y → Cq n x y) → Cqs n a b
  | [], _, _ => by unfold Cqs; trivial
  | _ :: _, [], _ => by unfold Cqs; trivial
  | x :: a, y :: b, h => by unfold Cqs; exact ⟨h 0 x y rfl rfl, Cqs.of fun i u v hu hv => h (i + 1) u v hu hv⟩
theorem Cqs.at {n : Nat} : ∀ {a b : List Da}, Cqs n a b → ∀ (i : Nat) (x y : Da), a[i]? = some x → b[i]? = some y → Cq n x y
  | [], _, _, i, x, y, hx, _ => by cases hx
  | _ :: _, [], _, i, x, y, _, hy => by cases hy
  | u :: a, v :: b, h, i, x, y, hx, hy => by
    unfold Cqs at h
    cases i with
    | zero => cases hx; cases hy; exact h.1
    | succ i => exact Cqs.at h.2 i x y hx hy
theorem Cq.flat {n : Nat} {x y : Da} (h1 : flD x = true) (h2 : flD y = true) : Cq n x y := by
  cases n with
  | zero => unfold Cq; exact ⟨h1, h2⟩
  | succ n => cases x <;> cases y <;> first | (cases h1; done) | (cases h2; done) | (unfold Cq; exact ⟨rfl, rfl⟩)
theorem Cq.tup {n : Nat} {a b : List Da} (h : ∀ (i : Nat) (x y : Da), a[i]? = some x → b[i]? = some y → Cq n x y) : Cq (n + 1) (.tup a) (.tup b) := by unfold Cq; exact Cqs.of h
theorem Cq.lst {n : Nat} {a b : List Da} (h : ∀ (i : Nat) (x y : Da), a[i]? = some x → b[i]? = some y → Cq n x y) : Cq (n + 1) (.lst a) (.lst b) := by unfold Cq; exact Cqs.of h
theorem flI {xs : List Int} : (xs.map Da.int).all flD = true := by rw [List.all_map]; exact List.all_eq_true.mpr fun _ _ => rfl
theorem flX {xs : List Str} : (xs.map Da.str).all flD = true := by rw [List.all_map]; exact List.all_eq_true.mpr fun _ _ => rfl
theorem eqDs_all : ∀ {a b : List Da}, eqDs a b = ((List.range (min a.length b.length)).all (fun i => eqD (a.getD i .non) (b.getD i .non)) && (a.length == b.length))
  | [], [] => rfl
  | [], _ :: _ => by simp [eqDs]
  | _ :: _, [] => by simp [eqDs]
  | x :: a, y :: b => by
    unfold eqDs
    rw [eqDs_all (a := a) (b := b)]
    simp only [List.length_cons, Nat.add_min_add_right, List.range_succ_eq_map, List.all_cons, List.all_map, List.getD_cons_zero, Function.comp_def, List.getD_cons_succ, Nat.succ_eq_add_one]
    rw [Bool.and_assoc]
    congr 2
    rw [Bool.eq_iff_iff, beq_iff_eq, beq_iff_eq]; omega
section
variable {K : PySem.W.Frag} {c : CEnv} {S : Option Addr} {G : Hp}
theorem flV_of {v : V} {d : Da} (h : Rp K c S G v d) (f : flD d = true) : flatV v = true := by
  cases d <;> first | (cases f; done) | (cases h; rfl)
theorem eqV_of {v u : V} {d e : Da} (h : Rp K c S G v d) (h2 : Rp K c S G u e) (f : flD d = true) (f2 : flD e = true) : eqV v u = eqD d e := by
  cases d <;> first | (cases f; done) | skip
  all_goals cases e <;> first | (cases f2; done) | skip
  all_goals cases h
  all_goals cases h2
  all_goals (simp only [eqV, eqD, eq0]; try rw [Bool.eq_iff_iff, beq_iff_eq, decide_eq_true_iff])
theorem eqB_sq {n : Nat} (ih : ∀ {x y : V} {d e : Da}, Cq n d e → Rp K c S G x d → Rp K c S G y e → EqB K G n x y (eqD d e)) {xs ys : List V} {a b : List Da} (hc : Cqs n a b) (ra : RpA K c S G xs a) (rb : RpA K c S G ys b) :
    (∀ (i : Nat) (x y : V), xs[i]? = some x → ys[i]? = some y → EqB K G n x y ((fun i => eqD (a.getD i .non) (b.getD i .non)) i)) ∧ eqDs a b = allB xs ys (fun i => eqD (a.getD i .non) (b.getD i .non)) := by
  refine ⟨fun i x y ex ey => ?_, ?_⟩
  · obtain ⟨d, ed, rd⟩ := rpsGetV ra ex
    obtain ⟨e, ee, re⟩ := rpsGetV rb ey
    have z := ih (hc.at i d e ed ee) rd re
    simp only [List.getD_eq_getElem?_getD, ed, ee]
    exact z
  · rw [eqDs_all]
    unfold allB
    rw [rpsLen ra, rpsLen rb]
theorem eqB_of : ∀ {n : Nat} {x y : V} {d e : Da}, Cq n d e → Rp K c S G x d → Rp K c S G y e → EqB K G n x y (eqD d e)
  | 0, x, y, d, e, h, hx, hy => by
    unfold Cq at h
    exact .inl ⟨flV_of hx h.1, flV_of hy h.2, (eqV_of hx hy h.1 h.2).symm⟩
  | n + 1, x, y, d, e, h, hx, hy => by
    have fl : flD d = true ∧ flD e = true → EqB K G (n + 1) x y (eqD d e) := fun z => EqB.up (Nat.zero_le _) (.inl ⟨flV_of hx z.1, flV_of hy z.2, (eqV_of hx hy z.1 z.2).symm⟩)
    have sq := fun {xs ys : List V} {a b : List Da} => eqB_sq (K := K) (c := c) (S := S) (G := G) (n := n) (fun hc hx hy => eqB_of hc hx hy) (xs := xs) (ys := ys) (a := a) (b := b)
    cases d with
    | tup a => cases e with
      | tup b =>
        unfold Cq at h
        obtain ⟨p, xs, rfl, ep, ra⟩ := rpT hx
        obtain ⟨q, ys, rfl, eq', rb⟩ := rpT hy
        obtain ⟨k1, k2⟩ := sq h ra rb
        simp only [eqD]
        exact EqB.of (.inl ⟨ep, eq'⟩) k1 k2
      | _ => (unfold Cq at h; cases h.1)
    | lst a => cases e with
      | lst b =>
        unfold Cq at h
        obtain ⟨p, xs, rfl, ep, ra⟩ := rpL hx
        obtain ⟨q, ys, rfl, eq', rb⟩ := rpL hy
        obtain ⟨k1, k2⟩ := sq h ra rb
        simp only [eqD]
        exact EqB.of (.inr ⟨SqL.of ep, SqL.of eq'⟩) k1 k2
      | _ => (unfold Cq at h; cases h.1)
    | _ => exact fl (by cases e <;> first | (unfold Cq at h; exact h) | exact h)
end
def pEq : PR2 := fun x y Q => ∃ n, n ≤ 16 ∧ Cq n x y ∧ Q (.bl (eqD x y))
def pNe : PR2 := fun x y Q => ∃ n, n ≤ 16 ∧ Cq n x y ∧ Q (.bl (!eqD x y))
section
variable {N : Cn} {w : Pw} {H0 B H H' : Hp} {ow : Ow} {σ : L2.St} {ρ : PEnv}
theorem eq_gen {K : PySem.W.Frag} {c : CEnv} {S : Option Addr} {G : Hp} {n : Nat} {x y : V} {dx dy : Da} {Q : VK} (hn : n ≤ 16) (hc : Cq n dx dy) (hx : Rp K c S G x dx) (hy : Rp K c S G y dy) : (Q (.bl (eqD dx dy)) G → uEq K x y G Q) ∧ (Q (.bl (!eqD dx dy)) G → uNe K x y G Q) := by
  by_cases f : flD dx = true ∧ flD dy = true
  · obtain ⟨f1, f2⟩ := f
    cases dx <;> first | (cases f1; done) | skip
    all_goals cases dy <;> first | (cases f2; done) | skip
    all_goals cases hx
    all_goals cases hy
    all_goals simp only [eqD, eq0]
    all_goals refine ⟨fun q => ?_, fun q => ?_⟩
    all_goals first
      | exact q
      | (refine .inl ⟨rfl, ?_⟩; rw [decide_eq_false (by intro z; cases z)]; exact q)
      | (refine .inr ⟨_, _, by first | exact .bl _ | exact .int _, by first | exact .bl _ | exact .int _, rfl, rfl, ?_⟩; simp only [PyData.eqv]; first | exact q | (rename_i a b; rw [show ((if a = true then (1 : Int) else 0) == b) = decide ((if a = true then (1 : Int) else 0) = b) by rw [Bool.eq_iff_iff, beq_iff_eq, decide_eq_true_iff]]; exact q) | (rename_i a b; rw [show (a == (if b = true then (1 : Int) else 0)) = decide (a = (if b = true then (1 : Int) else 0)) by rw [Bool.eq_iff_iff, beq_iff_eq, decide_eq_true_iff]]; exact q))
  · have sq : ∃ a b xs ys e, x = .ref a ∧ y = .ref b ∧ sameSq K G a b xs ys ∧ (∀ (i : Nat) (x y : V), xs[i]? = some x → ys[i]? = some y → EqB K G n x y (e i)) ∧ eqD dx dy = allB xs ys e := by
      cases n with
      | zero => unfold Cq at hc; exact absurd hc f
      | succ n =>
        cases dx with
        | tup a => cases dy with
          | tup b =>
            unfold Cq at hc
            obtain ⟨p, xs, rfl, ep, ra⟩ := rpT hx
            obtain ⟨q, ys, rfl, eq', rb⟩ := rpT hy
            obtain ⟨k1, k2⟩ := eqB_sq (fun hc hx hy => eqB_of hc hx hy) hc ra rb
            exact ⟨p, q, xs, ys, _, rfl, rfl, .inl ⟨ep, eq'⟩, fun i u v hu hv => .inl (k1 i u v hu hv), by simp only [eqD]; exact k2⟩
          | _ => (unfold Cq at hc; exact absurd hc f)
        | lst a => cases dy with
          | lst b =>
            unfold Cq at hc
            obtain ⟨p, xs, rfl, ep, ra⟩ := rpL hx
            obtain ⟨q, ys, rfl, eq', rb⟩ := rpL hy
            obtain ⟨k1, k2⟩ := eqB_sq (fun hc hx hy => eqB_of hc hx hy) hc ra rb
            exact ⟨p, q, xs, ys, _, rfl, rfl, .inr ⟨SqL.of ep, SqL.of eq'⟩, fun i u v hu hv => .inl (k1 i u v hu hv), by simp only [eqD]; exact k2⟩
          | _ => (unfold Cq at hc; exact absurd hc f)
        | _ => exact absurd (by cases dy <;> first | (unfold Cq at hc; exact hc) | exact hc) f
    obtain ⟨a, b, xs, ys, e, rfl, rfl, h1, h2, h3⟩ := sq
    rw [h3]
    exact ⟨fun q => .inr ⟨n, xs, ys, e, hn, h1, h2, q⟩, fun q => .inr ⟨n, xs, ys, e, hn, h1, h2, q⟩⟩
theorem sim_eq : SimR N (uEq N.K) pEq := by
  intro w H0 B ow H σ ρ x y dx dy Q Q' r hx hy h k
  obtain ⟨n, hn, hc, q⟩ := h
  exact (eq_gen hn hc (rpS hid_le hx) (rpS hid_le hy)).1 (k.flat r (.bl _) q)
theorem sim_ne : SimR N (uNe N.K) pNe := by
  intro w H0 B ow H σ ρ x y dx dy Q Q' r hx hy h k
  obtain ⟨n, hn, hc, q⟩ := h
  exact (eq_gen hn hc (rpS hid_le hx) (rpS hid_le hy)).2 (k.flat r (.bl _) q)
def isNon : Da → Bool | .non => true | _ => false
def pIs : PR2 := fun x y Q => match x, y with
  | x, .non => Q (.bl (isNon x))
  | .bl a, .bl b => Q (.bl (decide (a = b)))
  | _, _ => False
def pIsNot : PR2 := fun x y Q => match x, y with
  | x, .non => Q (.bl (!isNon x))
  | .bl a, .bl b => Q (.bl (!decide (a = b)))
  | _, _ => False
theorem isNon_of {K : PySem.W.Frag} {c : CEnv} {S : Option Addr} {G : Hp} {v : V} {d : Da} (h : Rp K c S G v d) : decide (v = .non) = isNon d := by
  cases h <;> first | rfl | exact decide_eq_false (fun z => by cases z)
theorem sim_is : SimR N uIs pIs := by
  intro w H0 B ow H σ ρ x y dx dy Q Q' r hx hy h k
  have hn : ∀ q : Q' (.bl (isNon dx)), Q (.bl (decide (x = .non))) H := fun q => k.flat r (by rw [isNon_of hx]; exact .bl _) q
  cases dy with
  | non => cases hy; exact z_is (hn (by simpa [pIs] using h))
  | bl b =>
    cases hy
    cases dx <;> first | exact h.elim | skip
    cases hx; exact k.flat r (.bl _) h
  | _ => simp only [pIs] at h
def inD (x : Da) (l : List Da) : Bool := l.any fun y => eqD y x
def pIn : PR2 := fun x y Q => match x, y with
  | .str i, .str j => Q (.bl (!(Builtin.Str.occurrences j i 0 j.length 1).isEmpty))
  | x, .lst l => flD x = true ∧ l.all flD = true ∧ Q (.bl (inD x l))
  | x, .tup l => flD x = true ∧ l.all flD = true ∧ Q (.bl (inD x l))
  | _, _ => False
def pNotIn : PR2 := fun x y Q => match x, y with
  | .str i, .str j => Q (.bl (!(!(Builtin.Str.occurrences j i 0 j.length 1).isEmpty)))
  | x, .lst l => flD x = true ∧ l.all flD = true ∧ Q (.bl (!inD x l))
  | x, .tup l => flD x = true ∧ l.all flD = true ∧ Q (.bl (!inD x l))
  | _, _ => False
theorem flVs_of {K : PySem.W.Frag} {c : CEnv} {S : Option Addr} {G : Hp} : ∀ {vs : List V} {ds : List Da}, RpA K c S G vs ds → ds.all flD = true → vs.all flatV = true
  | _, [], h, _ => by rw [rps0 h]; rfl
  | _, d :: ds, h, f => by
    obtain ⟨v, ws, rfl, a, b⟩ := rpsC h
    rw [List.all_cons, Bool.and_eq_true] at f ⊢
    exact ⟨flV_of a f.1, flVs_of b f.2⟩
theorem inV_of {K : PySem.W.Frag} {c : CEnv} {S : Option Addr} {G : Hp} {v : V} {d : Da} (h : Rp K c S G v d) (f : flD d = true) : ∀ {vs : List V} {ds : List Da}, RpA K c S G vs ds → ds.all flD = true → inV v vs = inD d ds
  | _, [], r, _ => by rw [rps0 r]; rfl
  | _, e :: ds, r, g => by
    obtain ⟨u, ws, rfl, a, b⟩ := rpsC r
    rw [List.all_cons, Bool.and_eq_true] at g
    show (eqV u v || inV v ws) = (eqD e d || inD d ds)
    rw [eqV_of a h g.1 f, inV_of h f b g.2]
theorem sim_in : SimR N (uIn N.K) pIn := by
  intro w H0 B ow H σ ρ x y dx dy Q Q' r hx hy h k
  cases dy with
  | str j => cases dx <;> first | exact h.elim | (cases hx; cases hy; exact k.flat r (.bl _) h)
  | lst l =>
    have h : flD dx = true ∧ l.all flD = true ∧ Q' (.bl (inD dx l)) := by cases dx <;> exact h
    obtain ⟨a, ys, rfl, e, rr⟩ := rpL hy
    exact z_in (.inl (SqL.of (hid_le _ _ e))) (flV_of hx h.1) (flVs_of rr h.2.1) (by rw [inV_of hx h.1 rr h.2.1]; exact k.flat r (.bl _) h.2.2)
  | tup l =>
    have h : flD dx = true ∧ l.all flD = true ∧ Q' (.bl (inD dx l)) := by cases dx <;> exact h
    obtain ⟨a, ys, rfl, e, rr⟩ := rpT hy
    exact z_in (.inr (Same.sqT hid_le e)) (flV_of hx h.1) (flVs_of rr h.2.1) (by rw [inV_of hx h.1 rr h.2.1]; exact k.flat r (.bl _) h.2.2)
  | _ => cases dx <;> exact h.elim
theorem sim_notIn : SimR N (uNotIn N.K) pNotIn := by
  intro w H0 B ow H σ ρ x y dx dy Q Q' r hx hy h k
  cases dy with
  | str j => cases dx <;> first | exact h.elim | (cases hx; cases hy; exact k.flat r (.bl _) h)
  | lst l =>
    have h : flD dx = true ∧ l.all flD = true ∧ Q' (.bl (!inD dx l)) := by cases dx <;> exact h
    obtain ⟨a, ys, rfl, e, rr⟩ := rpL hy
    exact z_notIn (.inl (SqL.of (hid_le _ _ e))) (flV_of hx h.1) (flVs_of rr h.2.1) (by rw [inV_of hx h.1 rr h.2.1]; exact k.flat r (.bl _) h.2.2)
  | tup l =>
    have h : flD dx = true ∧ l.all flD = true ∧ Q' (.bl (!inD dx l)) := by cases dx <;> exact h
    obtain ⟨a, ys, rfl, e, rr⟩ := rpT hy
    exact z_notIn (.inr (Same.sqT hid_le e)) (flV_of hx h.1) (flVs_of rr h.2.1) (by rw [inV_of hx h.1 rr h.2.1]; exact k.flat r (.bl _) h.2.2)
  | _ => cases dx <;> exact h.elim
def pIx : PR2 := fun x y Q => match x, y with
  | .lst l, .int i => ∃ d, atI l i = some d ∧ Q d
  | .tup l, .int i => ∃ d, atI l i = some d ∧ Q d
  | .str z, .int i => z.length ≤ 100000 ∧ ∃ ch, atI z.cps.toList i = some ch ∧ Q (.str ⟨#[ch]⟩)
  | _, _ => False
theorem sim_ix : SimR N (uIx N.K) pIx := by
  intro w H0 B ow H σ ρ x y dx dy Q Q' r hx hy h k
  cases dx <;> cases dy <;> first | exact h.elim | skip
  · cases hx; cases hy
    obtain ⟨hz, ch, e, q⟩ := h
    exact ⟨ch, Nat.le_trans hz (by decide), e, k.flat r (.str _) q⟩
  · obtain ⟨a, ys, rfl, e, rr⟩ := rpT hx
    cases hy
    obtain ⟨d, ed, q⟩ := h
    obtain ⟨v, ev, rv⟩ := rpsAt rr ed
    exact z_ix (.inr (Same.sqT hid_le e)) ev (k.flat r rv q)
  · obtain ⟨a, ys, rfl, e, rr⟩ := rpL hx
    cases hy
    obtain ⟨d, ed, q⟩ := h
    obtain ⟨v, ev, rv⟩ := rpsAt rr ed
    exact z_ix (.inl (SqL.of (hid_le _ _ e))) ev (k.flat r rv q)
def pLen : PRl := fun ds Q => match ds with
  | [.lst l] => Q (.int l.length)
  | [.tup l] => Q (.int l.length)
  | [.str z] => z.length ≤ 100000 ∧ Q (.int z.length)
  | _ => False
theorem rps1 {K : PySem.W.Frag} {c : CEnv} {S : Option Addr} {G : Hp} {vs : List V} {d : Da} (h : RpA K c S G vs [d]) : ∃ v, vs = [v] ∧ Rp K c S G v d := by
  obtain ⟨v, ws, rfl, a, b⟩ := rpsC h
  obtain rfl := rps0 b
  exact ⟨v, rfl, a⟩
theorem rps2 {K : PySem.W.Frag} {c : CEnv} {S : Option Addr} {G : Hp} {vs : List V} {d e : Da} (h : RpA K c S G vs [d, e]) : ∃ v u, vs = [v, u] ∧ Rp K c S G v d ∧ Rp K c S G u e := by
  obtain ⟨v, ws, rfl, a, b⟩ := rpsC h
  obtain ⟨u, ws2, rfl, b2, z⟩ := rpsC b
  obtain rfl := rps0 z
  exact ⟨v, u, rfl, a, b2⟩
def pInt : PRl := fun ds Q => match ds with
  | [.int i] => Q (.int i)
  | [.bl b] => Q (.int (if b then 1 else 0))
  | _ => False
def pMax : PRl := fun ds Q => match ds with
  | [.int i, .int j] => Q (.int (if j > i then j else i))
  | _ => False
def pMin : PRl := fun ds Q => match ds with
  | [.int i, .int j] => Q (.int (if j < i then j else i))
  | _ => False
def pAbs : PRl := fun ds Q => match ds with
  | [.int i] => Q (.int (if i < 0 then -i else i))
  | _ => False
def pList : PRl := fun ds Q => match ds with
  | [.lst l] => Q (.lst l)
  | [.tup l] => Q (.lst l)
  | _ => False
def pTuple : PRl := fun ds Q => match ds with
  | [.lst l] => Q (.tup l)
  | [.tup l] => Q (.tup l)
  | _ => False
theorem sim_tuple : SimL N (uTuple N.K) pTuple := by
  intro w H0 B ow H σ ρ xs ds Q Q' r hx h k
  unfold pTuple at h
  split at h
  · obtain ⟨v, rfl, a⟩ := rps1 hx
    obtain ⟨p, ys, rfl, e, rr⟩ := rpL a
    exact z_tupleL (SqL.of (hid_le _ _ e)) fun l hl => k.newT r rr h hl
  · obtain ⟨v, rfl, a⟩ := rps1 hx
    have a' := a
    obtain ⟨p, ys, rfl, e, rr⟩ := rpT a
    exact z_tupleT (Same.sqT hid_le e) (k.flat r a' h)
  · exact h.elim
def pOrd : PRl := fun ds Q => match ds with
  | [.str x] => x.length = 1 ∧ Q (.int (x.cps.getD 0 0 : Nat))
  | _ => False
def pStr : PRl := fun ds Q => match ds with
  | [.int i] => i.natAbs.log2 < 1920 ∧ Q (.str (toString i))
  | [.str x] => Q (.str x)
  | _ => False
def tyN : Da → String
  | .non => "NoneType" | .bl _ => "bool" | .int _ => "int" | .str _ => "str" | .tup _ => "tuple" | .lst _ => "list" | _ => ""
def isTy (n : String) (x : Da) : Bool := if n = "int" then (match x with | .int _ => true | .bl _ => true | _ => false) else decide (tyN x = n)
def okTy : Da → Bool
  | .non => true | .bl _ => true | .int _ => true | .str _ => true | .tup _ => true | .lst _ => true | _ => false
def pIsi : PRl := fun ds Q => match ds with
  | [x, .ty n] => okTy x = true ∧ (n = "int" ∨ n = "bool" ∨ n = "str" ∨ n = "tuple" ∨ n = "list") ∧ Q (.bl (isTy n x))
  | _ => False
def isC1 (x : Str) (d : Da) (Q : Da → Prop) : Prop := match d with
  | .ins y _ _ => Q (.bl (SUB y x))
  | d => okTy d = true ∧ Q (.bl false)
def pIsC (x : Str) (a : PEx) : PEx := fun ρ Q => a ρ fun d => isC1 x d Q
end

def truD : Da → Bool → Prop
  | .non, k => k = false
  | .bl b, k => k = b
  | .int i, k => k = (i != 0)
  | .str y, k => y.length ≤ 100000 ∧ k = ((y.length : Int) != 0)
  | .lst l, k => k = !l.isEmpty
  | .tup l, k => k = !l.isEmpty
  | _, _ => False
def pTest (p : PEx) : PTe := fun ρ Q => p ρ fun d => ∃ b, d = .bl b ∧ Q b
def pTru (p : PEx) : PTe := fun ρ Q => p ρ fun d => ∃ b, truD d b ∧ Q b
def pAnd (t u : PTe) : PTe := fun ρ Q => t ρ fun b => if b = true then u ρ Q else Q false
def pOr (t u : PTe) : PTe := fun ρ Q => t ρ fun b => if b = true then Q true else u ρ Q
def pNot (t : PTe) : PTe := fun ρ Q => t ρ fun b => Q (!b)
def pAndV (a b : PEx) : PEx := fun ρ Q => a ρ fun x => ∃ k, x = .bl k ∧ if k = true then b ρ Q else Q (.bl false)
def pOrV (a b : PEx) : PEx := fun ρ Q => a ρ fun x => ∃ k, x = .bl k ∧ if k = true then Q (.bl true) else b ρ Q
def pNotV (a : PEx) : PEx := fun ρ Q => a ρ fun x => ∃ k, x = .bl k ∧ Q (.bl (!k))
def pIf (t : PTe) (a b : PEx) : PEx := fun ρ Q => t ρ fun k => if k = true then a ρ Q else b ρ Q
def pChain (r r' : PR2) (a b e : PEx) : PEx := fun ρ Q => a ρ fun x => b ρ fun y => r x y fun z => ∃ k, z = .bl k ∧ if k = true then e ρ fun u => r' y u Q else Q (.bl false)
section
variable {N : Cn} {w : Pw} {H0 B H H' : Hp} {ow : Ow} {σ : L2.St} {ρ : PEnv}
theorem PostT.then {Q' Q2 : Bool → Prop} {Q : Bool → Hp → Prop} (k : PostT N w H0 B ow H σ ρ Q' Q) (s : Ex w.S H H') (i : ∀ d, Q2 d → Q' d) : PostT N w H0 B ow H' σ ρ Q2 Q := fun v H2 r s2 q => k v H2 r (Ex.trans s s2) (i v q)
theorem Rel.x0 (r : Rel N.K N.c w H0 B ow H σ ρ) : Ex w.S H H := r.exOf (Same.refl _)
theorem sim_test {t : TE} {p : PEx} (h : SimE N t p) : SimT N (tTest t) (pTest p) := by
  intro w H0 B aw ow H σ ρ Q Q' r q k
  refine h w H0 B aw ow H σ ρ _ _ r q fun v d H1 r1 s1 h1 ⟨b, e, q1⟩ => ?_
  subst e; cases h1
  exact ⟨b, rfl, k b H1 r1 s1 q1⟩
theorem truV_of {K : PySem.W.Frag} {c : CEnv} {S : Option Addr} {G : Hp} {v : V} {d : Da} {b : Bool} (h : Rp K c S G v d) (t : truD d b) : TruV K v G b := by
  cases d with
  | non => cases h; exact t
  | bl _ => cases h; exact t
  | int _ => cases h; exact t
  | str _ => cases h; exact ⟨Nat.le_trans t.1 (by decide), t.2⟩
  | lst l =>
    obtain ⟨a, xs, rfl, e, rr⟩ := rpL h
    have := rpsLen rr
    refine .inl ⟨xs, SqL.of e, ?_⟩
    rw [show b = !l.isEmpty from t]
    cases xs <;> cases l <;> first | rfl | (simp at this)
  | tup l =>
    obtain ⟨a, xs, rfl, e, rr⟩ := rpT h
    have := rpsLen rr
    refine .inr (.inl ⟨xs, e, ?_⟩)
    rw [show b = !l.isEmpty from t]
    cases xs <;> cases l <;> first | rfl | (simp at this)
  | _ => exact (show False from t).elim
theorem sim_tru {t : TE} {p : PEx} (h : SimE N t p) : SimT N (tTru N.K t) (pTru p) := by
  intro w H0 B aw ow H σ ρ Q Q' r q k
  refine h w H0 B aw ow H σ ρ _ _ r q fun v d H1 r1 s1 h1 ⟨b, e, q1⟩ => ?_
  exact ⟨b, truV_of (rpS hid_le h1) e, k b H1 r1 s1 q1⟩
theorem sim_and {t u : TT} {p q : PTe} (h : SimT N t p) (h' : SimT N u q) : SimT N (tAnd t u) (pAnd p q) := by
  intro w H0 B aw ow H σ ρ Q Q' r z k
  refine h w H0 B aw ow H σ ρ _ _ r z fun b H1 r1 s1 q1 => ?_
  cases b with
  | true => exact z_iteT (h' w H0 B aw ow H1 σ ρ _ _ r1 (by simpa using q1) (k.then s1 fun _ q => q))
  | false => exact z_iteF (k false H1 r1 s1 (by simpa using q1))
theorem sim_or {t u : TT} {p q : PTe} (h : SimT N t p) (h' : SimT N u q) : SimT N (tOr t u) (pOr p q) := by
  intro w H0 B aw ow H σ ρ Q Q' r z k
  refine h w H0 B aw ow H σ ρ _ _ r z fun b H1 r1 s1 q1 => ?_
  cases b with
  | true => exact z_iteT (k true H1 r1 s1 (by simpa using q1))
  | false => exact z_iteF (h' w H0 B aw ow H1 σ ρ _ _ r1 (by simpa using q1) (k.then s1 fun _ q => q))
theorem sim_not {t : TT} {p : PTe} (h : SimT N t p) : SimT N (tNot t) (pNot p) := by
  intro w H0 B aw ow H σ ρ Q Q' r z k
  exact h w H0 B aw ow H σ ρ _ _ r z fun b H1 r1 s1 q1 => k (!b) H1 r1 s1 q1
theorem sim_andV {t u : TE} {p q : PEx} (h : SimE N t p) (h' : SimE N u q) : SimE N (tAndV t u) (pAndV p q) := by
  intro w H0 B aw ow H σ ρ Q Q' r z k
  refine h w H0 B aw ow H σ ρ _ _ r z fun v d H1 r1 s1 h1 ⟨b, e, q1⟩ => ?_
  subst e; cases h1
  refine ⟨b, rfl, ?_⟩
  cases b with
  | true => exact z_iteT (h' w H0 B aw ow H1 σ ρ _ _ r1 (by simpa using q1) (k.then s1 fun _ q => q))
  | false => exact z_iteF (k _ _ H1 r1 s1 (.bl _) (by simpa using q1))
theorem sim_orV {t u : TE} {p q : PEx} (h : SimE N t p) (h' : SimE N u q) : SimE N (tOrV t u) (pOrV p q) := by
  intro w H0 B aw ow H σ ρ Q Q' r z k
  refine h w H0 B aw ow H σ ρ _ _ r z fun v d H1 r1 s1 h1 ⟨b, e, q1⟩ => ?_
  subst e; cases h1
  refine ⟨b, rfl, ?_⟩
  cases b with
  | true => exact z_iteT (k _ _ H1 r1 s1 (.bl _) (by simpa using q1))
  | false => exact z_iteF (h' w H0 B aw ow H1 σ ρ _ _ r1 (by simpa using q1) (k.then s1 fun _ q => q))
theorem sim_chain {r r' : R2} {q q' : PR2} {a b e : TE} {pa pb pe : PEx} (hr : SimR N r q) (hr' : SimR N r' q') (ha : SimE N a pa) (hb : SimE N b pb) (he : SimE N e pe) : SimE N (tChain r r' a b e) (pChain q q' pa pb pe) := by
  intro w H0 B aw ow H σ ρ Q Q' rr h k
  refine ha w H0 B aw ow H σ ρ _ _ rr h fun x dx H1 r1 s1 h1 q1 => ?_
  refine hb w H0 B aw ow H1 σ ρ _ _ r1 q1 fun y dy H2 r2 s2 h2 q2 => ?_
  refine hr w H0 B ow H2 σ ρ x y dx dy _ _ r2 (rpS (s2.dh r1) h1) h2 q2 fun z dz H3 r3 s3 h3 ⟨kk, e3, q3⟩ => ?_
  subst e3; cases h3
  refine ⟨kk, rfl, ?_⟩
  cases kk with
  | true =>
    refine z_iteT (he w H0 B aw ow H3 σ ρ _ _ r3 (by simpa using q3) fun u du H4 r4 s4 h4 q4 => ?_)
    exact hr' w H0 B ow H4 σ ρ y u dy du _ _ r4 (rpS ((Ex.trans s3 s4).dh r2) h2) h4 q4 (k.then (Ex.trans s1 (Ex.trans s2 (Ex.trans s3 s4))) fun _ q => q)
  | false => exact z_iteF (k _ _ H3 r3 (Ex.trans s1 (Ex.trans s2 s3)) (.bl _) (by simpa using q3))
def pFld (a : PEx) (f : Str) : PEx := fun ρ Q => a ρ fun d => ∃ x ks l y, d = .ins x ks l ∧ (ks.zip l).lookup f = some y ∧ Q y
theorem zip_lookup {K : PySem.W.Frag} {c : CEnv} {S : Option Addr} {G : Hp} {f : Str} {y : Da} : ∀ {ks : List Str} {l : List Da} {vs : List V}, RpA K c S G vs l → (ks.zip l).lookup f = some y → ks.contains f = true ∧ ∃ v, (ks.zip vs).lookup f = some v ∧ Rp K c S G v y
  | [], l, vs, _, h => by rw [List.zip_nil_left] at h; cases h
  | k :: ks, [], vs, _, h => by rw [List.zip_nil_right] at h; cases h
  | k :: ks, d :: l, vs, r, h => by
    obtain ⟨v, ws, rfl, a, b⟩ := rpsC r
    rw [List.zip_cons_cons, List.lookup_cons] at h ⊢
    by_cases e : (f == k) = true
    · rw [e] at h ⊢
      cases h
      exact ⟨by rw [List.contains_cons, e]; rfl, v, rfl, a⟩
    · have e : (f == k) = false := by simpa using e
      rw [e] at h ⊢
      obtain ⟨h1, u, h2, h3⟩ := zip_lookup b h
      exact ⟨by rw [List.contains_cons, h1, Bool.or_true], u, h2, h3⟩
theorem zip_lookup0 {f : Str} : ∀ {ks : List Str} {vs : List V}, ks.contains f = false → (ks.zip vs).lookup f = none
  | [], _, _ => by rw [List.zip_nil_left]; rfl
  | k :: ks, [], _ => by rw [List.zip_nil_right]; rfl
  | k :: ks, v :: vs, h => by
    rw [List.contains_cons, Bool.or_eq_false_iff] at h
    rw [List.zip_cons_cons, List.lookup_cons, h.1]
    exact zip_lookup0 h.2
theorem sim_fld {a : TE} {p : PEx} {f : Str} (h : SimE N a p) : SimE N (tFld N.K a f) (pFld p f) := by
  intro w H0 B aw ow H σ ρ Q Q' r z k
  refine h w H0 B aw ow H σ ρ _ _ r z fun v d H1 r1 s1 h1 ⟨x, ks, l, y, e, lk, q⟩ => ?_
  subst e
  obtain ⟨p, dx, xs, rfl, ok, e, hl, ra⟩ := rpO h1
  obtain ⟨hc, u, lu, ru⟩ := zip_lookup ra lk
  exact z_fld ok (hid_le _ _ e) lu hc (k _ _ H1 r1 s1 ru q)
abbrev POp := PEnv → (Option Int → Prop) → Prop
def pNoPart : POp := fun _ Q => Q none
def pPart (a : PEx) : POp := fun ρ Q => a ρ fun d => ∃ i, d = .int i ∧ Q (some i)
def cutD (xs : List Da) (lo hi : Option Int) : List Da := (xs.drop (HT.sIx xs.length 0 lo)).take (HT.sIx xs.length xs.length hi - HT.sIx xs.length 0 lo)
def slD (d : Da) (lo hi : Option Int) (Q : Da → Prop) : Prop := match d with
  | .lst xs => Q (.lst (cutD xs lo hi))
  | .tup xs => Q (.tup (cutD xs lo hi))
  | .str z => z.length ≤ 100000 ∧ Q (.str (cutS z lo hi))
  | _ => False
def pSl (a : PEx) (l h : POp) : PEx := fun ρ Q => a ρ fun d => l ρ fun lo => h ρ fun hi => slD d lo hi Q
def SpSim (K : PySem.W.Frag) (c : CEnv) (sp : Sp) (ps : PSp) : Prop := ∀ (S : Option (Addr × Addr)) (O : List Addr) (H : Hp) (vs : List V) (ds : List Da) (Q : VK) (E : XK) (Q' : Da → Prop) (E' : Str → Prop),
  Occ H O ∧ LamX.Tabs c.tb H → (∀ st L, S = some (st, L) → Draw H st L ∧ st ∈ O) → RpA K c (S.map (·.1)) (hid H O) vs ds → ps ds Q' E' → (∀ v d H', ExC c S H H' → Rp K c (S.map (·.1)) (hid H' O) v d → Q' d → Q v H') → (∀ x H', ExC c S H H' → E' x → E (.ref (c.cls x)) none H') → sp vs H Q E
def lift (K : PySem.W.Frag) (c : CEnv) (ps : PSp) : Sp := fun vs H Q E => ∃ (S : Option (Addr × Addr)) (O : List Addr) (ds : List Da) (Q' : Da → Prop) (E' : Str → Prop),
  (Occ H O ∧ LamX.Tabs c.tb H) ∧ (∀ st L, S = some (st, L) → Draw H st L ∧ st ∈ O) ∧ RpA K c (S.map (·.1)) (hid H O) vs ds ∧ ps ds Q' E' ∧ (∀ v d H', ExC c S H H' → Rp K c (S.map (·.1)) (hid H' O) v d → Q' d → Q v H') ∧ (∀ x H', ExC c S H H' → E' x → E (.ref (c.cls x)) none H')
theorem spSim_lift {K : PySem.W.Frag} {c : CEnv} {ps : PSp} : SpSim K c (lift K c ps) ps := fun S O H vs ds Q E Q' E' a b r p q e => ⟨S, O, ds, Q', E', a, b, r, p, q, e⟩
theorem call_go {sp : Sp} {ps : PSp} (hs : SpSim N.K N.c sp ps) {vs : List V} {ds : List Da} {Q : VK} {E : XK} {Q' : Da → Prop} {E' : Str → Prop} (r : Rel N.K N.c w H0 B ow H σ ρ) (h : RpA N.K N.c w.st (dh w ow H) vs ds) (p : ps ds Q' E') (k : Post N w H0 B ow H σ ρ Q' Q)
    (e : ∀ x H', Rel N.K N.c w H0 B ow H' σ ρ → E' x → E (.ref (N.c.cls x)) none H') : sp vs H Q E :=
  hs w.S (hl w ow) H vs ds Q E Q' E' ⟨r.occ, r.tb⟩ (fun st L z => ⟨(r.dr st L z).1, r.stO st L z⟩) h p (fun v d H' x rv q => k v d H' (r.ex x.1 x.2) x.1 rv q) (fun x H' ex z => e x H' (r.ex ex.1 ex.2) z)
def pCal (ps : PSp) (t : PAr) : PEx := fun ρ Q => t ρ fun ds => ps ds Q fun _ => False
def pCalS (Wp : WP) (ps : PSp) (t : PAr) : PEx := fun ρ Q => t ρ fun ds => ps ds Q fun x => Wp x ρ
theorem sim_cal {sp : Sp} {ps : PSp} {t : TA} {pt : PAr} (hs : SpSim N.K N.c sp ps) (ht : SimA N t pt) : SimE N (tCal sp t) (pCal ps pt) := by
  intro w H0 B aw ow H σ ρ Q Q' r z k
  refine ht w H0 B aw ow H σ ρ _ _ r z fun vs ds H1 r1 s1 h1 q1 => ?_
  exact call_go hs r1 h1 q1 (k.then s1 fun _ q => q) (fun _ _ _ f => f.elim)
theorem sim_calS {sp : Sp} {ps : PSp} {t : TA} {pt : PAr} (hs : SpSim N.K N.c sp ps) (ht : SimA N t pt) : SimE N (tCallS sp (WE N.W) t) (pCalS N.Wp ps pt) := by
  intro w H0 B aw ow H σ ρ Q Q' r z k
  refine ht w H0 B aw ow H σ ρ _ _ r z fun vs ds H1 r1 s1 h1 q1 => ?_
  exact call_go hs r1 h1 q1 (k.then s1 fun _ q => q) (fun x H' r' f => aw x ow H' σ ρ r' f)
def pMt (x m : Str) (ps : PSp) (a : PEx) (t : PAr) : PEx := fun ρ Q => a ρ fun d => ∃ ks l, d = .ins x ks l ∧ ks.contains m = false ∧ t ρ fun ds => ps (d :: ds) Q fun _ => False
def pMtX (Wp : WP) (x m : Str) (ps : PSp) (a : PEx) (t : PAr) : PEx := fun ρ Q => a ρ fun d => ∃ ks l, d = .ins x ks l ∧ ks.contains m = false ∧ t ρ fun ds => ps (d :: ds) Q fun x => Wp x ρ
def pPr (x : Str) (ps : PSp) (a : PEx) : PEx := fun ρ Q => a ρ fun d => ∃ ks l, d = .ins x ks l ∧ ps [d] Q fun _ => False
theorem sim_mt {x m : Str} {sp : Sp} {ps : PSp} {a : TE} {t : TA} {p : PEx} {pt : PAr} (hs : SpSim N.K N.c sp ps) (ha : SimE N a p) (ht : SimA N t pt) : SimE N (tMt N.c x m sp a t) (pMt x m ps p pt) := by
  intro w H0 B aw ow H σ ρ Q Q' r z k
  refine ha w H0 B aw ow H σ ρ _ _ r z fun v d H1 r1 s1 h1 ⟨ks, l, e, hc, q1⟩ => ?_
  subst e
  have h1' := h1
  obtain ⟨b, dx, xs, rfl, ok, e, hl, ra⟩ := rpO h1
  refine ⟨b, dx, _, rfl, hid_le _ _ e, zip_lookup0 hc, ?_⟩
  refine ht w H0 B aw ow H1 σ ρ _ _ r1 q1 fun vs ds H2 r2 s2 h2 q2 => ?_
  exact call_go hs r2 (.cons (rpS (s2.dh r1) h1') h2) q2 (k.then (Ex.trans s1 s2) fun _ q => q) (fun _ _ _ f => f.elim)
def SpSimI (K : PySem.W.Frag) (c : CEnv) (x : Str) (gs : List Str) (sp : Sp) (ps : PSi) : Prop := ∀ (S : Option (Addr × Addr)) (O : List Addr) (H : Hp) (p dx : Addr) (vs : List V) (ds : List Da) (Q : VK) (E : XK) (Q' : List Da → Prop) (E' : Str → Prop),
  Occ H O ∧ LamX.Tabs c.tb H → (∀ st L, S = some (st, L) → Draw H st L ∧ st ∈ O ∧ p ≠ st ∧ p ≠ L) → ClsOk K c x gs → H p = some (.ins (c.cls x) dx []) → p ∉ O → RpA K c (S.map (·.1)) (hid H (p :: O)) vs ds → ps ds Q' E' →
  (∀ l H', (∀ a o, (∀ st L, S = some (st, L) → a ≠ st) → a ≠ p → Nt o → H a = some o → H' a = some o) → (∀ st L, S = some (st, L) → Draw H' st L) ∧ LamX.Tabs c.tb H' → Rp K c (S.map (·.1)) (hid H' O) (.ref p) (.ins x gs l) → (∃ d2 xs, H' p = some (.ins (c.cls x) d2 (gs.zip xs)) ∧ l.length = gs.length ∧ RpA K c (S.map (·.1)) (hid H' (p :: O)) xs l) → Q' l → Q .non H') →
  (∀ y H', (∀ a o, (∀ st L, S = some (st, L) → a ≠ st) → a ≠ p → Nt o → H a = some o → H' a = some o) → (∀ st L, S = some (st, L) → Draw H' st L) ∧ LamX.Tabs c.tb H' → E' y → E (.ref (c.cls y)) none H') → sp (.ref p :: vs) H Q E
def liftI (K : PySem.W.Frag) (c : CEnv) (x : Str) (gs : List Str) (ps : PSi) : Sp := fun us H Q E => ∃ (S : Option (Addr × Addr)) (O : List Addr) (p dx : Addr) (vs : List V) (ds : List Da) (Q' : List Da → Prop) (E' : Str → Prop),
  us = .ref p :: vs ∧ (Occ H O ∧ LamX.Tabs c.tb H) ∧ (∀ st L, S = some (st, L) → Draw H st L ∧ st ∈ O ∧ p ≠ st ∧ p ≠ L) ∧ ClsOk K c x gs ∧ H p = some (.ins (c.cls x) dx []) ∧ p ∉ O ∧ RpA K c (S.map (·.1)) (hid H (p :: O)) vs ds ∧ ps ds Q' E' ∧
  (∀ l H', (∀ a o, (∀ st L, S = some (st, L) → a ≠ st) → a ≠ p → Nt o → H a = some o → H' a = some o) → (∀ st L, S = some (st, L) → Draw H' st L) ∧ LamX.Tabs c.tb H' → Rp K c (S.map (·.1)) (hid H' O) (.ref p) (.ins x gs l) → (∃ d2 xs, H' p = some (.ins (c.cls x) d2 (gs.zip xs)) ∧ l.length = gs.length ∧ RpA K c (S.map (·.1)) (hid H' (p :: O)) xs l) → Q' l → Q .non H') ∧
  (∀ y H', (∀ a o, (∀ st L, S = some (st, L) → a ≠ st) → a ≠ p → Nt o → H a = some o → H' a = some o) → (∀ st L, S = some (st, L) → Draw H' st L) ∧ LamX.Tabs c.tb H' → E' y → E (.ref (c.cls y)) none H')
theorem spSimI_lift {K : PySem.W.Frag} {c : CEnv} {x : Str} {gs : List Str} {ps : PSi} : SpSimI K c x gs (liftI K c x gs ps) ps := fun S O H p dx vs ds Q E Q' E' a b ok hp np r z q e => ⟨S, O, p, dx, vs, ds, Q', E', rfl, a, b, ok, hp, np, r, z, q, e⟩
theorem make_go {x : Str} {gs : List Str} {sp : Sp} {ps : PSi} (hs : SpSimI N.K N.c x gs sp ps) {vs : List V} {ds : List Da} {Q : VK} {E : XK} {Q' : List Da → Prop} {E' : Str → Prop} {p dx : Addr} (ok : ClsOk N.K N.c x gs) (r : Rel N.K N.c w H0 B ow H σ ρ) (h : RpA N.K N.c w.st (dh w ow H) vs ds)
    (hp : H p = none) (hdx : H dx = none) (ne : dx ≠ p) (z : ps ds Q' E') (k : Post N w H0 B ow H σ ρ (fun d => ∃ l, d = .ins x gs l ∧ Q' l) Q) (e : ∀ y H', Rel N.K N.c w H0 B ow H' σ ρ → E' y → E (.ref (N.c.cls y)) none H') :
    sp (.ref p :: vs) (upd (upd H dx (.own p)) p (.ins (N.c.cls x) dx [])) (fun v H2 => v = .non ∧ Q (.ref p) H2) E := by
  have hp2 : upd H dx (.own p) p = none := by rw [upd_ne ne.symm]; exact hp
  have s1 : Same H (upd (upd H dx (.own p)) p (.ins (N.c.cls x) dx [])) := Same.new hp2 (Same.new hdx (Same.refl H))
  have back : ∀ H', (∀ a o, (∀ st L, w.S = some (st, L) → a ≠ st) → a ≠ p → Nt o → upd (upd H dx (.own p)) p (.ins (N.c.cls x) dx []) a = some o → H' a = some o) → (∀ st L, w.S = some (st, L) → Draw H' st L) → Ex w.S H H' := fun H' h1 h2 => ⟨fun a o n nt ea => h1 a o n (fun z => by subst z; rw [hp] at ea; cases ea) nt (s1 a o ea), h2⟩
  refine hs w.S (hl w ow) _ p dx vs ds _ E Q' E' ⟨r.occ.same s1, r.tb.ext s1⟩ (fun st L q => ⟨(r.dr st L q).1.same s1, r.stO st L q, Draw.ne hp (r.dr st L q).1, Draw.neL hp (r.dr st L q).1⟩) ok upd_same (r.occ.no hp) (rpsS (hid_ofS hp s1) h) z (fun l H' h1 h2 rp _ q => ⟨rfl, ?_⟩) (fun y H' h1 h2 q => e y H' (r.ex (back H' h1 h2.1) h2.2) q)
  exact k _ _ H' (r.ex (back H' h1 h2.1) h2.2) (back H' h1 h2.1) rp ⟨l, rfl, q⟩
def pMk (x : Str) (gs : List Str) (ps : PSi) (t : PAr) : PEx := fun ρ Q => t ρ fun ds => ps ds (fun l => Q (.ins x gs l)) fun _ => False
def pMkX (Wp : WP) (x : Str) (gs : List Str) (ps : PSi) (t : PAr) : PEx := fun ρ Q => t ρ fun ds => ps ds (fun l => Q (.ins x gs l)) fun y => Wp y ρ
theorem sim_mkX {x : Str} {gs : List Str} {sp : Sp} {ps : PSi} {t : TA} {pt : PAr} (hs : SpSimI N.K N.c x gs sp ps) (ht : SimA N t pt) : SimE N (tMkX N.K N.c x gs sp N.W t) (pMkX N.Wp x gs ps pt) := by
  intro w H0 B aw ow H σ ρ Q Q' r z k
  refine ht w H0 B aw ow H σ ρ _ _ r z fun vs ds H1 r1 s1 h1 q1 ok p dx hp hdx ne => ?_
  exact make_go hs ok r1 h1 hp hdx ne q1 (k.then s1 fun d ⟨l, e, q⟩ => e ▸ q) (fun y H' r' f => aw y ow H' σ ρ r' f)
def cstD : Cst → Da
  | .v .non => .non | .v (.bl b) => .bl b | .v (.int i) => .int i | .v (.str x) => .str x | .v _ => .non
  | .e => .tup []
def cstOk : Cst → Bool
  | .v .non => true | .v (.bl b) => true | .v (.int i) => true | .v (.str x) => true | .v _ => false
  | .e => true
theorem cst_rp {K : PySem.W.Frag} {c : CEnv} {S : Option Addr} {G : Hp} : ∀ {ms : List Cst} {vs : List V}, All2 (Cst.Is K) ms vs → ms.all cstOk = true → RpA K c S G vs (ms.map cstD)
  | [], _, h, _ => by cases h; exact .nil
  | m :: ms, _, h, o => by
    rw [List.all_cons, Bool.and_eq_true] at o
    cases h with
    | cons h t =>
      refine .cons ?_ (cst_rp t o.2)
      cases m with
      | v y =>
        have h : _ = y := h
        rw [h]
        clear h
        cases y <;> first | (cases o.1; done) | (constructor; done)
      | e => obtain ⟨T, rfl, e⟩ := h; exact .tup (.inr ⟨e G, rfl⟩) .nil
theorem gSel_rp {K : PySem.W.Frag} {c : CEnv} {S : Option Addr} {G : Hp} (sel : List (Bool × Nat)) {vs mz zs : List V} {ds dm dz : List Da} (h1 : RpA K c S G vs ds) (h2 : RpA K c S G mz dm) (h3 : RpA K c S G zs dz) : RpA K c S G (gSel sel vs mz zs) (gSel sel ds dm dz) := by
  unfold gSel
  refine rpsApp h1 ?_
  have one : ∀ {xs : List V} {as : List Da} (i : Nat), RpA K c S G xs as → (xs[i]? = none ∧ as[i]? = none) ∨ ∃ x a, xs[i]? = some x ∧ as[i]? = some a ∧ Rp K c S G x a := by
    intro xs as i r
    cases e : xs[i]? with
    | none =>
      refine .inl ⟨rfl, ?_⟩
      rw [List.getElem?_eq_none_iff] at e ⊢
      rw [← rpsLen r]; exact e
    | some x => obtain ⟨a, ea, ra⟩ := rpsGetV r e; exact .inr ⟨x, a, rfl, ea, ra⟩
  induction sel with
  | nil => exact .nil
  | cons z t ih =>
    obtain ⟨b, i⟩ := z
    cases b with
    | true =>
      rcases one i h3 with ⟨e1, e2⟩ | ⟨x, a, e1, e2, r⟩
      · simp only [List.filterMap_cons, if_pos, e1, e2]; exact ih
      · simp only [List.filterMap_cons, if_pos, e1, e2]; exact .cons r ih
    | false =>
      rcases one i h2 with ⟨e1, e2⟩ | ⟨x, a, e1, e2, r⟩
      · simp only [List.filterMap_cons, Bool.false_eq_true, if_false, e1, e2]; exact ih
      · simp only [List.filterMap_cons, Bool.false_eq_true, if_false, e1, e2]; exact .cons r ih
def selD (sel : List (Bool × Nat)) (ms : List Cst) (ds dz : List Da) : List Da := gSel sel ds (ms.map cstD) dz
def pMkK (Wp : WP) (x : Str) (gs : List Str) (n nk : Nat) (ms : List Cst) (sel : List (Bool × Nat)) (ps : PSi) (t tk : PAr) : PEx := fun ρ Q => t ρ fun ds => tk ρ fun dz => ds.length = n ∧ dz.length = nk ∧ ps (selD sel ms ds dz) (fun l => Q (.ins x gs l)) fun y => Wp y ρ
theorem sim_mkK {x : Str} {gs : List Str} {n nk : Nat} {ms : List Cst} {sel : List (Bool × Nat)} {sp : Sp} {ps : PSi} {t tk : TA} {pt pk : PAr} (hs : SpSimI N.K N.c x gs sp ps) (ht : SimA N t pt) (hk : SimA N tk pk) (hm : ms.all cstOk = true := by rfl) : SimE N (tMkK N.K N.c x gs n nk ms sel sp N.W t tk) (pMkK N.Wp x gs n nk ms sel ps pt pk) := by
  intro w H0 B aw ow H σ ρ Q Q' r z k
  refine ht w H0 B aw ow H σ ρ _ _ r z fun vs ds H1 r1 s1 h1 q1 => ?_
  refine hk w H0 B aw ow H1 σ ρ _ _ r1 q1 fun zs dz H2 r2 s2 h2 q2 => ?_
  obtain ⟨l1, l2, q2⟩ := q2
  refine ⟨(rpsLen h1).trans l1, (rpsLen h2).trans l2, fun ok us hus p dx hp hdx ne => ?_⟩
  have rr := gSel_rp sel (rpsS (s2.dh r1) h1) (cst_rp (c := N.c) (S := w.st) (G := dh w ow H2) hus hm) h2
  rw [show gSel sel (V.ref p :: vs) us zs = V.ref p :: gSel sel vs us zs from rfl]
  exact make_go hs ok r2 rr hp hdx ne q2 (k.then (Ex.trans s1 s2) fun d ⟨l, e, q⟩ => e ▸ q) (fun y H' r' f => aw y ow H' σ ρ r' f)
end

abbrev PTgs := List Da → PEnv → (PEnv → Prop) → Prop
def SimGs (N : Cn) (g : TGs) (sl : List Nat) (pg : PTgs) : Prop := ∀ w H0 B ow H σ ρ vs ds Q Q', Rel N.K N.c w H0 B ow H σ ρ → RpA N.K N.c w.st (dh w ow H) vs ds → pg ds ρ Q' → (∀ σ' ρ', Rel N.K N.c w H0 B ow H σ' ρ' → (∀ us, (∀ i ∈ sl, i ∈ us) → wipe σ' us = wipe σ us) → Q' ρ' → Q σ' H) → g vs σ H Q
def pgName (i : Nat) : PTg := fun d ρ Q => Q (ρ.set i (some (.d d)))
def pgNil : PTgs := fun ds ρ Q => ds = [] ∧ Q ρ
def pgCons (g : PTg) (t : PTgs) : PTgs := fun ds ρ Q => ∃ d r, ds = d :: r ∧ g d ρ fun ρ' => t r ρ' Q
def pgTup (n : Nat) (t : PTgs) : PTg := fun d ρ Q => ∃ ds, d = .tup ds ∧ ds.length = n ∧ t ds ρ Q
theorem wipe_mem {σ : L2.St} {i : Nat} {x : Option V} : ∀ {us : List Nat}, i ∈ us → wipe (σ.set i x) us = wipe σ us
  | [], h => by cases h
  | u :: us, h => by
    unfold wipe
    by_cases e : i ∈ us
    · rw [wipe_mem e]
    · rcases List.mem_cons.mp h with rfl | h
      · have : ∀ us : List Nat, i ∉ us → wipe (σ.set i x) us = (wipe σ us).set i x := by
          intro us
          induction us with
          | nil => intro _; rfl
          | cons v vs ih =>
            intro hv
            unfold wipe
            rw [ih fun z => hv (List.mem_cons_of_mem _ z), List.set_comm _ _ (fun z => hv (by subst z; exact List.mem_cons_self ..))]
        rw [this us e, List.set_set]
      · exact absurd h e
theorem wipe_wipe {σ : L2.St} {us : List Nat} : wipe (wipe σ us) us = wipe σ us := by
  have : ∀ (vs : List Nat), (∀ v ∈ vs, v ∈ us) → wipe (wipe σ vs) us = wipe σ us := by
    intro vs
    induction vs with
    | nil => intro _; rfl
    | cons v vs ih =>
      intro h
      rw [show wipe σ (v :: vs) = (wipe σ vs).set v none from rfl, wipe_mem (h v (List.mem_cons_self ..)), ih fun u hu => h u (List.mem_cons_of_mem _ hu)]
  exact this us fun _ h => h
section
variable {N : Cn} {w : Pw} {H0 B H H' : Hp} {ow : Ow} {σ : L2.St} {ρ : PEnv}
theorem sim_gName (i : Nat) : SimG N (gName i) [i] (pgName i) := by
  intro w H0 B ow H σ ρ v d Q Q' r h q k
  exact k _ _ (r.set i h) (fun us hu => wipe_mem (hu i (List.mem_cons_self ..))) q
theorem sim_gNil : SimGs N gNil [] pgNil := by
  intro w H0 B ow H σ ρ vs ds Q Q' r h q k
  obtain ⟨rfl, q⟩ := q
  exact ⟨rps0 h, k _ _ r (fun _ _ => rfl) q⟩
theorem sim_gCons {g : TG} {sl sl2 : List Nat} {pg : PTg} {t : TGs} {pt : PTgs} (hg : SimG N g sl pg) (ht : SimGs N t sl2 pt) : SimGs N (gCons g t) (sl ++ sl2) (pgCons pg pt) := by
  intro w H0 B ow H σ ρ vs ds Q Q' r h q k
  obtain ⟨d, ds', rfl, q⟩ := q
  obtain ⟨v, ws, rfl, a, b⟩ := rpsC h
  refine ⟨v, ws, rfl, hg w H0 B ow H σ ρ v d _ _ r a q fun σ1 ρ1 r1 w1 q1 => ?_⟩
  exact ht w H0 B ow H σ1 ρ1 ws ds' _ _ r1 b q1 fun σ2 ρ2 r2 w2 q2 => k σ2 ρ2 r2 (fun us hu => (w2 us fun i hi => hu i (List.mem_append_right _ hi)).trans (w1 us fun i hi => hu i (List.mem_append_left _ hi))) q2
theorem sim_gTup {n : Nat} {t : TGs} {sl : List Nat} {pt : PTgs} (ht : SimGs N t sl pt) : SimG N (gTup N.K n t) sl (pgTup n pt) := by
  intro w H0 B ow H σ ρ v d Q Q' r h q k
  obtain ⟨ds, rfl, hl, q⟩ := q
  obtain ⟨a, xs, rfl, e, rr⟩ := rpT h
  exact ⟨a, xs, rfl, Same.sqT hid_le e, (rpsLen rr).trans hl, ht w H0 B ow H σ ρ xs ds _ _ r rr q k⟩
structure JOk (K : PySem.W.Frag) (c : CEnv) (S : Option Addr) (J : It) (G : Hp) (items : List Da) : Prop where
  stop : ∀ i H, items.length = i → Same G H → J.stop i H
  go : ∀ i H, i < items.length → Same G H → J.go i H
  yld : ∀ i H x H' d, items[i]? = some d → Same G H → J.yld i H x H' → Same H H' ∧ ∀ O, Occ H O → Same G (hid H O) → Rp K c S (hid H' O) x d
abbrev PIt := PEnv → (List Da → Prop) → Prop
def SimI (N : Cn) (wi : TI) (p : PIt) : Prop := ∀ w H0 B, AdW N w H0 B → ∀ ow H σ ρ (R : It → Hp → Prop) Q', Rel N.K N.c w H0 B ow H σ ρ → p ρ Q' → (∀ J items H', Rel N.K N.c w H0 B ow H' σ ρ → Ex w.S H H' → JOk N.K N.c w.st J (dh w ow H') items → Q' items → R J H') → wi σ H R
theorem jok_l {K : PySem.W.Frag} {c : CEnv} {S : Option Addr} {G : Hp} {a : Addr} {xs : List V} {ds : List Da} (e : G a = some (.lst xs)) (r : RpA K c S G xs ds) : JOk K c S (Itl K a) G ds := by
  have hl := rpsLen r
  refine ⟨fun i H h s => ⟨xs, SqL.of (s _ _ e), by omega⟩, fun i H h s => ?_, fun i H x H' d hd s y => ?_⟩
  · have h1 : i < xs.length := by omega
    exact ⟨xs, xs[i], SqL.of (s _ _ e), by simp [h1]⟩
  · obtain ⟨rfl, f⟩ := y
    obtain ⟨v, hv, rv⟩ := rpsGet r hd
    have := f xs (SqL.of (s _ _ e))
    rw [hv] at this
    cases this
    exact ⟨Same.refl _, fun O _ t => rpS t rv⟩
theorem jok_t {K : PySem.W.Frag} {c : CEnv} {S : Option Addr} {G : Hp} {a : Addr} {xs : List V} {ds : List Da} (e : SqT K G a xs) (r : RpA K c S G xs ds) : JOk K c S (Itt K a) G ds := by
  have hl := rpsLen r
  refine ⟨fun i H h s => ⟨xs, Same.sqT s e, by omega⟩, fun i H h s => ?_, fun i H x H' d hd s y => ?_⟩
  · have h1 : i < xs.length := by omega
    exact ⟨xs, xs[i], Same.sqT s e, by simp [h1]⟩
  · obtain ⟨rfl, f⟩ := y
    obtain ⟨v, hv, rv⟩ := rpsGet r hd
    have := f xs (Same.sqT s e)
    rw [hv] at this
    cases this
    exact ⟨Same.refl _, fun O _ t => rpS t rv⟩
def piSq (p : PEx) : PIt := fun ρ Q => p ρ fun d => ∃ l, (d = .lst l ∨ d = .tup l) ∧ Q l
theorem sim_iSq {t : TE} {p : PEx} (h : SimE N t p) : SimI N (iSq N.K t) (piSq p) := by
  intro w H0 B aw ow H σ ρ R Q' r q k
  refine h w H0 B aw ow H σ ρ _ _ r q fun v d H1 r1 x1 h1 ⟨l, e, q1⟩ => ?_
  rcases e with rfl | rfl
  · obtain ⟨a, xs, rfl, e, rr⟩ := rpL h1
    exact ⟨a, rfl, .inl ⟨⟨xs, SqL.of (hid_le _ _ e)⟩, k _ _ H1 r1 x1 (jok_l e rr) q1⟩⟩
  · obtain ⟨a, xs, rfl, e, rr⟩ := rpT h1
    exact ⟨a, rfl, .inr ⟨⟨xs, Same.sqT hid_le e⟩, k _ _ H1 r1 x1 (jok_t e rr) q1⟩⟩
def rngD (lo : Int) (n : Nat) : List Da := (List.range n).map fun (i : Nat) => Da.int (lo + (i : Int))
theorem rngD_len {lo : Int} {n : Nat} : (rngD lo n).length = n := by unfold rngD; rw [List.length_map, List.length_range]
theorem rngD_get {lo : Int} {n i : Nat} {d : Da} (h : (rngD lo n)[i]? = some d) : i < n ∧ d = .int (lo + (i : Int)) := by
  unfold rngD at h
  rw [List.getElem?_map] at h
  by_cases l : i < n
  · rw [List.getElem?_range l] at h
    cases h; exact ⟨l, rfl⟩
  · rw [List.getElem?_eq_none (by simpa using l)] at h; cases h
def piRng1 (p : PAr) : PIt := fun ρ Q => p ρ fun ds => ∃ j : Int, ds = [.int j] ∧ -1000000 ≤ j ∧ j ≤ 1000000 ∧ Q (rngD 0 j.toNat)
def piRng2 (p : PAr) : PIt := fun ρ Q => p ρ fun ds => ∃ i j : Int, ds = [.int i, .int j] ∧ (-1000000 ≤ i ∧ i ≤ 1000000 ∧ -1000000 ≤ j ∧ j ≤ 1000000) ∧ Q (rngD i (j - i).toNat)
theorem jok_r {K : PySem.W.Frag} {c : CEnv} {S : Option Addr} {G : Hp} {lo : Int} {n : Nat} : JOk K c S (Itr lo n) G (rngD lo n) := by
  refine ⟨fun i H h s => by rw [rngD_len] at h; exact Nat.le_of_eq h, fun i H h s => by rw [rngD_len] at h; exact h, fun i H x H' d hd s y => ?_⟩
  obtain ⟨rfl, rfl⟩ := y
  obtain ⟨_, rfl⟩ := rngD_get hd
  exact ⟨Same.refl _, fun O _ t => .int _⟩
theorem sim_iRng1 {t : TA} {p : PAr} (h : SimA N t p) : SimI N (iRng1 t) (piRng1 p) := by
  intro w H0 B aw ow H σ ρ R Q' r q k
  refine h w H0 B aw ow H σ ρ _ _ r q fun vs ds H1 r1 x1 h1 ⟨j, e, b1, b2, q1⟩ => ?_
  subst e
  obtain ⟨v, rfl, a⟩ := rps1 h1
  cases a
  exact ⟨j, rfl, by omega, by omega, k _ _ H1 r1 x1 jok_r q1⟩
def zipD (a b : List Da) : List Da := (a.zip b).map fun z => .tup [z.1, z.2]
def piZip (p : PAr) : PIt := fun ρ Q => p ρ fun ds => ∃ a b, (ds = [.lst a, .lst b] ∨ ds = [.tup a, .tup b]) ∧ Q (zipD a b)
def enumD (l : List Da) : List Da := l.mapIdx fun i x => .tup [.int (i : Nat), x]
def piEnum (p : PAr) : PIt := fun ρ Q => p ρ fun ds => ∃ l, (ds = [.lst l] ∨ ds = [.tup l]) ∧ Q (enumD l)
def strD (x : Str) : List Da := x.cps.toList.map fun ch => .str ⟨#[ch]⟩
def piStr (p : PEx) : PIt := fun ρ Q => p ρ fun d => ∃ x, d = .str x ∧ Q (strD x)
theorem sim_iStr {t : TE} {p : PEx} (h : SimE N t p) : SimI N (iStr t) (piStr p) := by
  intro w H0 B aw ow H σ ρ R Q' r q k
  refine h w H0 B aw ow H σ ρ _ _ r q fun v d H1 r1 x1 h1 ⟨x, e, q1⟩ => ?_
  subst e; cases h1
  have hl : (strD x).length = x.cps.size := by unfold strD; rw [List.length_map, Array.length_toList]
  refine ⟨x, rfl, k _ _ H1 r1 x1 ⟨fun i H h s => by rw [hl] at h; exact Nat.le_of_eq h, fun i H h s => by rw [hl] at h; exact h, fun i H v H' d hd s y => ?_⟩ q1⟩
  obtain ⟨rfl, ch, e, rfl⟩ := y
  unfold strD at hd
  rw [List.getElem?_map, Array.getElem?_toList, e] at hd
  cases hd
  exact ⟨Same.refl _, fun O _ t => .str _⟩
def pNext : PSt := fun D ρ => D.nx ρ
def pSeq (p q : PSt) : PSt := fun D ρ => p { D with nx := q D } ρ
def pAsg (e : PEx) (g : PTg) : PSt := fun D ρ => e ρ fun d => g d ρ D.nx
def pDrop (e : PEx) : PSt := fun D ρ => e ρ fun _ => D.nx ρ
def pRet (e : PEx) : PSt := fun D ρ => e ρ D.rt
def pRetN : PSt := fun D _ => D.rt .non
def pIfS (t : PTe) (p q : PSt) : PSt := fun D ρ => t ρ fun b => if b = true then p D ρ else q D ρ
def pBreak : PSt := fun D ρ => D.bk ρ
def pCont : PSt := fun D ρ => D.ct ρ
def pRaise (Wp : WP) (x : Str) : PSt := fun _ ρ => Wp x ρ
def pRaiseA (Wp : WP) (x : Str) (e : PEx) : PSt := fun _ ρ => e ρ fun _ => Wp x ρ
def pLoop (l : List Da) (g : PTg) (b : PSt) : PSt := fun D ρ => ∃ I : Nat → PEnv → Prop, I 0 ρ ∧ (∀ i x ρ', l[i]? = some x → I i ρ' → g x ρ' fun ρ2 => b { D with nx := I (i + 1), ct := I (i + 1), bk := D.nx } ρ2) ∧ ∀ ρ', I l.length ρ' → D.nx ρ'
def pFor (pi : PIt) (g : PTg) (b : PSt) : PSt := fun D ρ => pi ρ fun l => pLoop l g b D ρ
theorem AdD.withNx {D : Ends} {D' : PD} {nx : L2.St → Hp → Prop} {nx' : PEnv → Prop} (a : AdD N w H0 B D D') (h : ∀ ow H σ ρ, Rel N.K N.c w H0 B ow H σ ρ → nx' ρ → nx σ H) : AdD N w H0 B { D with nx := nx } { D' with nx := nx' } := ⟨h, a.bk, a.ct, a.rt, a.rm⟩
theorem AdD.re {B' : Hp} {D : Ends} {D' : PD} (a : AdD N w H0 B D D') (s : Same B B') : AdD N w H0 B' D D' := ⟨fun ow H σ ρ r q => a.nx _ _ _ _ (r.re s) q, fun ow H σ ρ r q => a.bk _ _ _ _ (r.re s) q, fun ow H σ ρ r q => a.ct _ _ _ _ (r.re s) q, fun ow H σ ρ v d r h q => a.rt _ _ _ _ _ _ (r.re s) h q, fun ow H σ ρ v d r h q => a.rm _ _ _ _ _ _ (r.re s) h q⟩
theorem sim_next : SimS N tNext pNext := fun w H0 B aw ow H σ ρ D D' a r q => a.nx _ _ _ _ r q
theorem sim_seq {t u : TS} {p q : PSt} (ht : SimS N t p) (hu : SimS N u q) : SimS N (tSeq t u) (pSeq p q) := fun w H0 B aw ow H σ ρ D D' a r z =>
  ht w H0 B aw ow H σ ρ _ _ (a.withNx fun ow' H' σ' ρ' r' q' => hu w H0 B aw ow' H' σ' ρ' D D' a r' q') r z
theorem sim_asg {t : TE} {g : TG} {p : PEx} {sl : List Nat} {pg : PTg} (ht : SimE N t p) (hg : SimG N g sl pg) : SimS N (tAsg t g) (pAsg p pg) := fun w H0 B aw ow H σ ρ D D' a r z =>
  ht w H0 B aw ow H σ ρ _ _ r z fun v d H1 r1 x1 h1 q1 => hg w H0 B ow H1 σ ρ v d _ _ r1 h1 q1 fun σ' ρ' r' _ q' => a.nx _ _ _ _ r' q'
theorem sim_drop {t : TE} {p : PEx} (ht : SimE N t p) : SimS N (tDrop t) (pDrop p) := fun w H0 B aw ow H σ ρ D D' a r z =>
  ht w H0 B aw ow H σ ρ _ _ r z fun v d H1 r1 x1 h1 q1 => a.nx _ _ _ _ r1 q1
theorem sim_ret {t : TE} {p : PEx} (ht : SimE N t p) : SimS N (tRet t) (pRet p) := fun w H0 B aw ow H σ ρ D D' a r z =>
  ht w H0 B aw ow H σ ρ _ _ r z fun v d H1 r1 x1 h1 q1 => a.rt _ _ _ _ _ _ r1 h1 q1
theorem sim_ifS {t : TT} {a b : TS} {p : PTe} {pa pb : PSt} (h : SimT N t p) (ha : SimS N a pa) (hb : SimS N b pb) : SimS N (tIfS t a b) (pIfS p pa pb) := by
  intro w H0 B aw ow H σ ρ D D' a r z
  refine h w H0 B aw ow H σ ρ _ _ r z fun b H1 r1 s1 q1 => ?_
  cases b with
  | true => exact z_iteT (ha w H0 B aw ow H1 σ ρ _ _ a r1 (by simpa using q1))
  | false => exact z_iteF (hb w H0 B aw ow H1 σ ρ _ _ a r1 (by simpa using q1))
theorem sim_raise {x : Str} : SimS N (sRaise N.c x N.W) (pRaise N.Wp x) := fun w H0 B aw ow H σ ρ D D' a r z => aw x ow H σ ρ r z
theorem sim_for {wi : TI} {pi : PIt} {g : TG} {sl : List Nat} {pg : PTg} {tb : TS} {pb : PSt} (hi : SimI N wi pi) (hg : SimG N g sl pg) (hb : SimS N tb pb) : SimS N (tFor wi g tb) (pFor pi pg pb) := by
  intro w H0 B aw ow H σ ρ D D' a r z
  refine hi w H0 B aw ow H σ ρ _ _ r z fun J items H1 r1 x1 j ⟨I, i0, st, fin⟩ => ?_
  have base : Same B (dh w ow H1) := r1.bs
  refine ⟨fun i m σ' H' => m = items.length - i ∧ i ≤ items.length ∧ ∃ ow' ρ', Rel N.K N.c w H0 (dh w ow H1) ow' H' σ' ρ' ∧ I i ρ', ⟨_, rfl, Nat.zero_le _, ow, ρ, ⟨r1.occ, r1.dr, r1.nd, r1.inj, r1.fr, r1.fr2, r1.len, r1.sl, Same.refl _, r1.tb⟩, i0⟩, ?_⟩
  rintro i m σ' H' ⟨rfl, hi, ow', ρ', r', ii⟩
  by_cases hlt : i < items.length
  · refine .inr ⟨j.go i H' hlt (Same.trans r'.bs hid_le), fun σ2 H2 => ∃ ow2 ρ2, Rel N.K N.c w H0 (dh w ow H1) ow2 H2 σ2 ρ2 ∧ I (i + 1) ρ2, fun σ2 H2 q => ⟨_, by omega, rfl, by omega, q⟩, fun x H2 y => ?_⟩
    have ed : items[i]? = some items[i] := by simp [hlt]
    obtain ⟨s2, rp⟩ := j.yld i H' x H2 _ ed (Same.trans r'.bs hid_le) y
    have r2 := r'.same s2
    refine hg w H0 _ ow' H2 σ' ρ' x _ _ _ r2 (rp _ r'.occ r'.bs) (st i _ ρ' ed ii) fun σ3 ρ3 r3 _ q3 => ?_
    exact hb w H0 _ (aw.re base) ow' H2 σ3 ρ3 _ { D' with nx := I (i + 1), ct := I (i + 1), bk := D'.nx } ⟨fun ow4 H4 σ4 ρ4 r4 q4 => ⟨ow4, ρ4, r4, q4⟩, fun ow4 H4 σ4 ρ4 r4 q4 => a.nx _ _ _ _ (r4.re base) q4, fun ow4 H4 σ4 ρ4 r4 q4 => ⟨ow4, ρ4, r4, q4⟩, fun ow4 H4 σ4 ρ4 v d r4 h4 q4 => a.rt _ _ _ _ _ _ (r4.re base) h4 q4, fun ow4 H4 σ4 ρ4 v d r4 h4 q4 => a.rm _ _ _ _ _ _ (r4.re base) h4 q4⟩ r3 q3
  · have e : i = items.length := by omega
    subst e
    exact .inl ⟨j.stop _ H' rfl (Same.trans r'.bs hid_le), a.nx _ _ _ _ (r'.re base) (fin ρ' ii)⟩
end

def SimF (N : Cn) (t : TE) (p : PAr) : Prop := ∀ w H0 B, AdW N w H0 B → ∀ ow H σ ρ Q (Q' : List Da → Prop), Rel N.K N.c w H0 B ow H σ ρ → p ρ Q' → (∀ a vs l H', Rel N.K N.c w H0 B ((ρ.length, a) :: ow) H' σ ρ → Ex w.S H H' → Fre H a → H' a = some (.lst vs) → RpA N.K N.c w.st (dh w ((ρ.length, a) :: ow) H') vs l → Q' l → Q (.ref a) H') → t σ H Q
section
variable {N : Cn} {w : Pw} {H0 B H H' : Hp} {ow : Ow} {σ : L2.St} {ρ : PEnv}
theorem Rel.sub {ow' : Ow} (r : Rel N.K N.c w H0 B ow H σ ρ) (h1 : ∀ p ∈ ow', p ∈ ow) (h2 : ∀ i x, ρ[i]? = some (some x) → SlotOk N.K N.c w ow' H σ i x) : Rel N.K N.c w H0 B ow' H σ ρ := by
  have hsub : ∀ a, a ∈ hl w ow' → a ∈ hl w ow := fun a ha => by
    rcases List.mem_append.mp ha with ha | ha
    · obtain ⟨p, hp, rfl⟩ := List.mem_map.mp ha
      exact List.mem_append_left _ (List.mem_map_of_mem (h1 p hp))
    · exact List.mem_append_right _ ha
  exact ⟨fun a ha => r.occ a (hsub a ha), r.dr, fun p hp => r.nd p (h1 p hp), fun p hp q hq => r.inj p (h1 p hp) q (h1 q hq), r.fr, fun p hp => r.fr2 p (h1 p hp), r.len, h2, Same.trans r.bs (hid_sub hsub), r.tb⟩
theorem dh_sub {ow' : Ow} (h1 : ∀ p ∈ ow', p ∈ ow) : Same (dh w ow H) (dh w ow' H) := hid_sub fun a ha => by
  rcases List.mem_append.mp ha with ha | ha
  · obtain ⟨p, hp, rfl⟩ := List.mem_map.mp ha
    exact List.mem_append_left _ (List.mem_map_of_mem (h1 p hp))
  · exact List.mem_append_right _ ha
theorem get_lt {i : Nat} {x : Pv} (h : ρ[i]? = some (some x)) : i < ρ.length := (List.getElem?_eq_some_iff.mp h).1
theorem Rel.unhide {a : Addr} (r : Rel N.K N.c w H0 B ((ρ.length, a) :: ow) H σ ρ) : Rel N.K N.c w H0 B ow H σ ρ := by
  refine r.sub (fun p hp => List.mem_cons_of_mem _ hp) fun i x e => ?_
  have lt := get_lt e
  have k := r.sl i x e
  have s : Same (dh w ((ρ.length, a) :: ow) H) (dh w ow H) := dh_sub fun p hp => List.mem_cons_of_mem _ hp
  have mem : ∀ {b : Addr}, (i, b) ∈ (ρ.length, a) :: ow → (i, b) ∈ ow := fun {b} hb => by
    rcases List.mem_cons.mp hb with z | z
    · injection z with z1 z2; omega
    · exact z
  cases x with
  | d x => obtain ⟨v, e, rr⟩ := k; exact ⟨v, e, rpS s rr⟩
  | own l => obtain ⟨b, vs, m, e, eh, rr⟩ := k; exact ⟨b, vs, mem m, e, eh, rpsS s rr⟩
  | dct t l => obtain ⟨b, vs, m, e, eh, ⟨rr, oo⟩⟩ := k; exact ⟨b, vs, mem m, e, eh, ⟨rpsS s rr, oo⟩⟩
  | obj x gs ks l => obtain ⟨b, dx, vs, m, e, ok, eh, hl, rr⟩ := k; exact ⟨b, dx, vs, mem m, e, ok, eh, hl, rpsS s rr⟩
  | mu b T => obtain ⟨v, as, e, p, m, n, rr⟩ := k; exact ⟨v, as, e, p, fun a ha => mem (m a ha), n, rr.mono s _ _ _ fun _ _ _ eo => eo⟩
theorem sim_ofF {t : TE} {p : PAr} (h : SimF N t p) : SimE N t (fun ρ Q => p ρ fun l => Q (.lst l)) := by
  intro w H0 B aw ow H σ ρ Q Q' r z k
  refine h w H0 B aw ow H σ ρ _ _ r z fun a vs l H1 r1 x1 ha e1 h1 q1 => ?_
  have nin : a ∉ hl w ow := r.occ.noF ha
  exact k _ _ H1 r1.unhide x1 (.lst (hid_lk nin e1) (rpsS (dh_sub fun p hp => List.mem_cons_of_mem _ hp) h1)) q1
theorem simF_lst {t : TA} {p : PAr} (ht : SimA N t p) : SimF N (tLst t) (fun ρ Q => p ρ fun ds => ds.length ≤ 100000 ∧ Q ds) := by
  intro w H0 B aw ow H σ ρ Q Q' r h k
  refine ht w H0 B aw ow H σ ρ _ _ r h fun vs ds H1 r1 s1 h1 ⟨l, q1⟩ => ⟨Nat.le_trans (by rw [rpsLen h1]; exact l) (by decide), fun a ha => ?_⟩
  have h0 : Fre H a := fun o n e => by
    by_cases q : ∃ st L, w.S = some (st, L) ∧ a = st
    · obtain ⟨st, L, e, rfl⟩ := q
      obtain ⟨o', e'⟩ := (s1.2 _ _ e).occ; rw [ha] at e'; cases e'
    · have := s1.1 a o (fun st L z1 z2 => q ⟨st, L, z1, z2⟩) n e; rw [ha] at this; cases this
  exact k a vs ds _ (r1.hide ha) (Ex.trans s1 (r1.exOf (Same.new ha (Same.refl _)))) h0 upd_same (RpA.hide ha h1 (Same.new ha (Same.refl _))) q1
theorem Ex.none {S : Option (Addr × Addr)} {a : Addr} (x : Ex S H H') (h : H' a = none) : Fre H a := fun o n e => by
  by_cases q : ∃ st L, S = some (st, L) ∧ a = st
  · obtain ⟨st, L, e, rfl⟩ := q
    obtain ⟨o', e'⟩ := (x.2 _ _ e).occ; rw [h] at e'; cases e'
  · have := x.1 a o (fun st L z1 z2 => q ⟨st, L, z1, z2⟩) n e; rw [h] at this; cases this
def wipeP (ρ : PEnv) : List Nat → PEnv
  | [] => ρ
  | v :: vs => (wipeP ρ vs).set v none
theorem Rel.wipe (r : Rel N.K N.c w H0 B ow H σ ρ) : ∀ us : List Nat, Rel N.K N.c w H0 B ow H (L2.wipe σ us) (wipeP ρ us)
  | [] => r
  | u :: us => (r.wipe us).drop u none
def pComp (l : List Da) (g : PTg) (t : PTe) (e : PEx) (us : List Nat) : PAr := fun ρ Q => l.length ≤ 90000 ∧ ∃ R : Nat → List Da → Prop, R 0 [] ∧ (∀ i x acc, l[i]? = some x → R i acc → g x (wipeP ρ us) fun ρ2 => t ρ2 fun b => if b = true then e ρ2 fun y => R (i + 1) (acc ++ [y]) else R (i + 1) acc) ∧ ∀ acc, R l.length acc → Q acc
def pLcF (pi : PIt) (g : PTg) (t : PTe) (e : PEx) (us : List Nat) : PAr := fun ρ Q => pi ρ fun l => pComp l g t e us ρ Q
def pLc (pi : PIt) (g : PTg) (t : PTe) (e : PEx) (us : List Nat) : PEx := fun ρ Q => pLcF pi g t e us ρ fun l => Q (.lst l)
def pYes : PTe := fun _ Q => Q true
theorem sim_yes : SimT N tYes pYes := fun w H0 B aw ow H σ ρ Q Q' r h k => k true H r r.x0 h
theorem simF_lc {wi : TI} {pi : PIt} {g : TG} {sl : List Nat} {pg : PTg} {tt : TT} {pt : PTe} {te : TE} {pe : PEx} {us : List Nat} (hi : SimI N wi pi) (hg : SimG N g sl pg) (hs : ∀ i ∈ sl, i ∈ us) (ht : SimT N tt pt) (he : SimE N te pe) : SimF N (tLc wi g tt te us) (pLcF pi pg pt pe us) := by
  intro w H0 B aw ow H σ ρ Q Q' r z k
  refine hi w H0 B aw ow H σ ρ _ _ r z fun J items H1 r1 x1 j ⟨hn, R, i0, st, fin⟩ D hD => ?_
  refine ⟨fun i m H' => m = items.length - i ∧ i ≤ items.length ∧ Rel N.K N.c w H0 B ((ρ.length, D) :: ow) H' σ ρ ∧ Ex w.S H1 H' ∧ ∃ acc ds, H' D = some (.lst acc) ∧ RpA N.K N.c w.st (dh w ((ρ.length, D) :: ow) H') acc ds ∧ acc.length ≤ i ∧ R i ds, ⟨_, rfl, Nat.zero_le _, r1.hide hD, r1.exOf (Same.new hD (Same.refl _)), [], [], upd_same, .nil, Nat.le_refl _, i0⟩, ?_⟩
  have hG : ∀ H', Rel N.K N.c w H0 B ((ρ.length, D) :: ow) H' σ ρ → Ex w.S H1 H' → Same (dh w ow H1) (dh w ((ρ.length, D) :: ow) H') := fun H' r' x' => hid_of hD (x'.dh r1)
  rintro i m H' ⟨rfl, hi, r', x', acc, ds, eD, ra, la, ii⟩
  have s' := hG H' r' x'
  by_cases hlt : i < items.length
  · refine .inr ⟨j.go i H' hlt (Same.trans s' hid_le), fun H2 => Rel N.K N.c w H0 B ((ρ.length, D) :: ow) H2 σ ρ ∧ Ex w.S H1 H2 ∧ ∃ acc ds, H2 D = some (.lst acc) ∧ RpA N.K N.c w.st (dh w ((ρ.length, D) :: ow) H2) acc ds ∧ acc.length ≤ i + 1 ∧ R (i + 1) ds, fun H2 q => ⟨_, by omega, rfl, by omega, q⟩, fun x H2 y => ?_⟩
    have ed : items[i]? = some items[i] := by simp [hlt]
    obtain ⟨s2, rp⟩ := j.yld i H' x H2 _ ed (Same.trans s' hid_le) y
    have r2 := r'.same s2
    have x2 : Ex w.S H' H2 := r'.exOf s2
    refine hg w H0 B _ H2 _ _ x _ _ _ (r2.wipe us) (rp _ r'.occ s') (st i _ ds ed ii) fun σ3 ρ3 r3 w3 q3 => ⟨(w3 us hs).trans wipe_wipe, ?_⟩
    have notD : ∀ st L, w.S = some (st, L) → D ≠ st := r'.notSt (p := (ρ.length, D)) (List.mem_cons_self ..)
    refine ht w H0 B aw _ H2 σ3 ρ3 _ _ r3 q3 fun b H3 r4 x4 q4 => ?_
    cases b with
    | true =>
      refine z_iteT (he w H0 B aw _ H3 σ3 ρ3 _ _ r4 (by simpa using q4) fun v d H4 r5 x5 h5 q5 => ?_)
      have x04 : Ex w.S H' H4 := Ex.trans x2 (Ex.trans x4 x5)
      have e4 := x04.lk notD eD
      have rr := r'.ex x04 r5.tb
      refine ⟨acc, e4, Nat.lt_of_lt_of_le (show acc.length < 100000 by omega) (by decide), ?_⟩
      have rw' := rr.write (o := .lst (acc ++ [v])) (List.mem_cons_self ..) (fun k' x e m => by
        have lt := get_lt e
        rcases List.mem_cons.mp m with z | z
        · injection z with z1 z2; omega
        · exact absurd (r'.inj _ (List.mem_cons_of_mem _ z) _ (List.mem_cons_self ..) rfl) (fun z' => by injection z' with z1 z2; omega))
      have ed : dh w ((ρ.length, D) :: ow) (upd H4 D (.lst (acc ++ [v]))) = dh w ((ρ.length, D) :: ow) H4 := hid_put (List.mem_cons_self ..)
      refine ⟨rw', ⟨fun a o n nt ea => ?_, fun st L e => ((rw'.dr st L e).1)⟩, _, _, upd_same, by rw [ed]; exact rpsApp (rpsS (x04.dh r') ra) (rpsOne h5), by simp; omega, q5⟩
      refine lk_ne (fun z => ?_) ((Ex.trans x' x04).1 a o n nt ea)
      subst z; rw [hD] at ea; cases ea
    | false =>
      have x03 : Ex w.S H' H3 := Ex.trans x2 x4
      exact z_iteF ⟨r'.ex x03 r4.tb, Ex.trans x' x03, acc, ds, x03.lk notD eD, rpsS (x03.dh r') ra, by omega, by simpa using q4⟩
  · have e : i = items.length := by omega
    subst e
    exact .inl ⟨j.stop _ H' rfl (Same.trans s' hid_le), k D acc ds H' r' (Ex.trans x1 x') (x1.none hD) eD ra (fin ds ii)⟩
theorem sim_lc {wi : TI} {pi : PIt} {g : TG} {sl : List Nat} {pg : PTg} {tt : TT} {pt : PTe} {te : TE} {pe : PEx} {us : List Nat} (hi : SimI N wi pi) (hg : SimG N g sl pg) (hs : ∀ i ∈ sl, i ∈ us) (ht : SimT N tt pt) (he : SimE N te pe) : SimE N (tLc wi g tt te us) (pLc pi pg pt pe us) := sim_ofF (simF_lc hi hg hs ht he)
theorem Rel.reown {a : Addr} {i : Nat} {vs : List V} {l : List Da} (r : Rel N.K N.c w H0 B ((ρ.length, a) :: ow) H σ ρ) (hn : a ∉ hl w ow) (e : H a = some (.lst vs)) (h : RpA N.K N.c w.st (dh w ((ρ.length, a) :: ow) H) vs l) : Rel N.K N.c w H0 B ((i, a) :: ow) H (σ.set i (some (.ref a))) (ρ.set i (some (.own l))) := by
  have eq : ∀ {H : Hp}, dh w ((i, a) :: ow) H = dh w ((ρ.length, a) :: ow) H := rfl
  have fresh : ∀ q ∈ ow, q.2 ≠ a := fun q hq z => hn (List.mem_append_left _ (z ▸ List.mem_map_of_mem hq))
  refine ⟨r.occ, r.dr, ?_, ?_, r.fr, ?_, by rw [List.length_set, List.length_set]; exact r.len, ?_, r.bs, r.tb⟩
  · intro q hq
    rcases List.mem_cons.mp hq with rfl | hq
    · exact r.nd (ρ.length, a) (List.mem_cons_self ..)
    · exact r.nd q (List.mem_cons_of_mem _ hq)
  · intro q hq q' hq' z
    rcases List.mem_cons.mp hq with rfl | hq
    · rcases List.mem_cons.mp hq' with rfl | hq'
      · rfl
      · exact absurd z.symm (fresh q' hq')
    · rcases List.mem_cons.mp hq' with rfl | hq'
      · exact absurd z (fresh q hq)
      · exact r.inj q (List.mem_cons_of_mem _ hq) q' (List.mem_cons_of_mem _ hq') z
  · intro q hq
    rcases List.mem_cons.mp hq with rfl | hq
    · exact r.fr2 (ρ.length, a) (List.mem_cons_self ..)
    · exact r.fr2 q (List.mem_cons_of_mem _ hq)
  · intro j x ej
    rw [getElem?_set'] at ej
    by_cases q : i = j
    · subst q
      rw [if_pos rfl] at ej
      by_cases lt : i < ρ.length
      · rw [if_pos lt] at ej
        cases ej
        exact ⟨a, vs, List.mem_cons_self .., by rw [List.getElem?_set_self (by rw [r.len]; exact lt)], e, h⟩
      · rw [if_neg lt] at ej; cases ej
    · rw [if_neg q] at ej
      have lt := get_lt ej
      have k := r.sl j x ej
      have mem : ∀ {b : Addr}, (j, b) ∈ (ρ.length, a) :: ow → (j, b) ∈ (i, a) :: ow := fun {b} hb => by
        rcases List.mem_cons.mp hb with z | z
        · injection z with z1 z2; omega
        · exact List.mem_cons_of_mem _ z
      refine SlotOk.other ?_ q
      cases x with
      | d x => exact k
      | own l => obtain ⟨b, vs, m, e, eh, rr⟩ := k; exact ⟨b, vs, mem m, e, eh, rr⟩
      | dct t l => obtain ⟨b, vs, m, e, eh, ⟨rr, oo⟩⟩ := k; exact ⟨b, vs, mem m, e, eh, ⟨rr, oo⟩⟩
      | obj x gs ks l => obtain ⟨b, dx, vs, m, e, ok, eh, hl, rr⟩ := k; exact ⟨b, dx, vs, mem m, e, ok, eh, hl, rr⟩
      | mu b T => obtain ⟨v, as, e, p, m, n, rr⟩ := k; exact ⟨v, as, e, p, fun a ha => mem (m a ha), n, rr⟩
def pAsgO (i : Nat) (p : PAr) : PSt := fun D ρ => p ρ fun l => D.nx (ρ.set i (some (.own l)))
theorem sim_asgO {t : TE} {p : PAr} {i : Nat} (h : SimF N t p) : SimS N (tAsg t (gName i)) (pAsgO i p) := fun w H0 B aw ow H σ ρ D D' a r z =>
  h w H0 B aw ow H σ ρ _ _ r z fun b vs l H1 r1 x1 hb e1 h1 q1 => a.nx _ _ _ _ (r1.reown (r.occ.noF hb) e1 h1) q1
theorem Rel.putO {i : Nat} {a : Addr} {vs' : List V} {l' : List Da} (r : Rel N.K N.c w H0 B ow H σ ρ) (lt : i < ρ.length) (m : (i, a) ∈ ow) (e : σ[i]? = some (some (.ref a))) (h : RpA N.K N.c w.st (dh w ow H) vs' l') : Rel N.K N.c w H0 B ow (upd H a (.lst vs')) σ (ρ.set i (some (.own l'))) := by
  have hin : a ∈ hl w ow := List.mem_append_left _ (List.mem_map_of_mem (f := (·.2)) m)
  have ed : dh w ow (upd H a (.lst vs')) = dh w ow H := hid_put hin
  have r0 : Rel N.K N.c w H0 B ow H σ (ρ.set i none) := ⟨r.occ, r.dr, r.nd, r.inj, r.fr, r.fr2, by rw [List.length_set]; exact r.len, fun j x ej => by
    rw [getElem?_set'] at ej
    by_cases q : i = j
    · rw [if_pos q] at ej; split at ej <;> cases ej
    · rw [if_neg q] at ej; exact r.sl j x ej, r.bs, r.tb⟩
  have r1 := r0.write (o := .lst vs') m (fun k x ek mk => by
    have := r0.inj _ mk _ m rfl
    injection this with z _
    subst z
    rw [getElem?_set', if_pos rfl] at ek
    split at ek <;> cases ek)
  refine ⟨r1.occ, r1.dr, r1.nd, r1.inj, r1.fr, r1.fr2, by rw [List.length_set]; exact r.len, fun j x ej => ?_, r1.bs, r1.tb⟩
  rw [getElem?_set'] at ej
  by_cases q : i = j
  · subst q
    rw [if_pos rfl, if_pos lt] at ej
    cases ej
    exact ⟨a, vs', m, e, upd_same, by rw [ed]; exact h⟩
  · rw [if_neg q] at ej
    exact r1.sl j x (by rw [getElem?_set', if_neg q]; exact ej)
def pApp (i : Nat) (e : PEx) : PSt := fun D ρ => ∃ l, ρ[i]? = some (some (.own l)) ∧ l.length < 100000 ∧ e ρ fun d => D.nx (ρ.set i (some (.own (l ++ [d]))))
theorem sim_app {i : Nat} {t : TE} {p : PEx} (h : SimE N t p) : SimS N (tDrop (tBM N.K "list" rAppend (tVar i) (tCons t tNil))) (pApp i p) := by
  intro w H0 B aw ow H σ ρ D D' a r ⟨l, el, hl, z⟩
  obtain ⟨b, vs, m, es, eb, rl⟩ := r.sl i _ el
  refine ⟨.ref b, es, tyL eb, ?_⟩
  refine h w H0 B aw ow H σ ρ _ _ r z fun v d H1 r1 x1 h1 q1 => ?_
  refine ⟨b, vs, v, rfl, rfl, x1.lk (r.notSt m) eb, Nat.lt_of_lt_of_le (show vs.length < 100000 by rw [rpsLen rl]; exact hl) (by decide), ?_⟩
  exact a.nx _ _ _ _ (r1.putO (get_lt el) m es (rpsApp (rpsS (x1.dh r) rl) (rpsOne h1))) q1
def pSetI (i : Nat) (pk pv : PEx) : PSt := fun D ρ => ∃ l, ρ[i]? = some (some (.own l)) ∧ pv ρ fun d => pk ρ fun e => ∃ k j, e = .int k ∧ ixN l.length k = some j ∧ D.nx (ρ.set i (some (.own (l.set j d))))
theorem Rel.frz {i : Nat} {l : List Da} (r : Rel N.K N.c w H0 B ow H σ ρ) (e : ρ[i]? = some (some (.own l))) : ∃ ow2, (∀ p ∈ ow2, p ∈ ow) ∧ Rel N.K N.c w H0 B ow2 H σ (ρ.set i (some (.d (.lst l)))) := by
  obtain ⟨a, vs, m, es, ea, rl⟩ := r.sl i _ e
  have sub : ∀ p ∈ ow.filter (fun p => p.2 != a), p ∈ ow := fun p hp => (List.mem_filter.mp hp).1
  have r0 : Rel N.K N.c w H0 B ow H σ (ρ.set i none) := ⟨r.occ, r.dr, r.nd, r.inj, r.fr, r.fr2, by rw [List.length_set]; exact r.len, fun j x ej => by
    rw [getElem?_set'] at ej
    by_cases q : i = j
    · rw [if_pos q] at ej; split at ej <;> cases ej
    · rw [if_neg q] at ej; exact r.sl j x ej, r.bs, r.tb⟩
  have s : Same (dh w ow H) (dh w (ow.filter (fun p => p.2 != a)) H) := dh_sub sub
  have r1 : Rel N.K N.c w H0 B (ow.filter (fun p => p.2 != a)) H σ (ρ.set i none) := r0.sub sub fun j x ej => by
    have k := r0.sl j x ej
    have ne : i ≠ j := fun q => by subst q; rw [getElem?_set', if_pos rfl] at ej; split at ej <;> cases ej
    have mem : ∀ {b : Addr}, (j, b) ∈ ow → (j, b) ∈ ow.filter (fun p => p.2 != a) := fun {b} hb => List.mem_filter.mpr ⟨hb, by
      rw [bne_iff_ne]
      intro z
      have := r.inj _ hb _ m z
      injection this with z1 _
      exact ne z1.symm⟩
    cases x with
    | d x => obtain ⟨v, e, rr⟩ := k; exact ⟨v, e, rpS s rr⟩
    | own l => obtain ⟨b, vs, m, e, eh, rr⟩ := k; exact ⟨b, vs, mem m, e, eh, rpsS s rr⟩
    | dct t l => obtain ⟨b, vs, m, e, eh, ⟨rr, oo⟩⟩ := k; exact ⟨b, vs, mem m, e, eh, ⟨rpsS s rr, oo⟩⟩
    | obj x gs ks l => obtain ⟨b, dx, vs, m, e, ok, eh, hl, rr⟩ := k; exact ⟨b, dx, vs, mem m, e, ok, eh, hl, rpsS s rr⟩
    | mu b T => obtain ⟨v, as, e, p, m, n, rr⟩ := k; exact ⟨v, as, e, p, fun a ha => mem (m a ha), n, rr.mono s _ _ _ fun _ _ _ eo => eo⟩
  have nin : a ∉ hl w (ow.filter (fun p => p.2 != a)) := fun h => by
    rcases List.mem_append.mp h with h | h
    · obtain ⟨p, hp, e⟩ := List.mem_map.mp h
      have := (List.mem_filter.mp hp).2
      rw [bne_iff_ne] at this
      exact this e
    · exact (r.nd _ m).2 h
  refine ⟨_, sub, r1.occ, r1.dr, r1.nd, r1.inj, r1.fr, r1.fr2, by rw [List.length_set]; exact r.len, fun j x ej => ?_, r1.bs, r1.tb⟩
  rw [getElem?_set'] at ej
  by_cases q : i = j
  · subst q
    rw [if_pos rfl, if_pos (get_lt e)] at ej
    cases ej
    exact ⟨.ref a, es, .lst (hid_lk nin ea) (rpsS s rl)⟩
  · rw [if_neg q] at ej
    exact r1.sl j x (by rw [getElem?_set', if_neg q]; exact ej)
def pFrz (i : Nat) (p : PSt) : PSt := fun D ρ => ∃ l, ρ[i]? = some (some (.own l)) ∧ p D (ρ.set i (some (.d (.lst l))))
def pBor (i : Nat) (p : PEx) : PEx := fun ρ Q => ∃ l, ρ[i]? = some (some (.own l)) ∧ p (ρ.set i (some (.d (.lst l)))) fun d => flD d = true ∧ Q d
def pBorT (i : Nat) (p : PTe) : PTe := fun ρ Q => ∃ l, ρ[i]? = some (some (.own l)) ∧ p (ρ.set i (some (.d (.lst l)))) Q
theorem sim_borT {t : TT} {p : PTe} {i : Nat} (h : SimT ⟨N.K, N.c, W0, fun _ _ => False⟩ t p) : SimT N t (pBorT i p) := by
  intro w H0 B aw ow H σ ρ Q Q' r ⟨l, e, z⟩ k
  obtain ⟨ow2, sub, r2⟩ := Rel.frz (N := N) r e
  refine h w H0 B (fun _ _ _ _ _ _ f => f.elim) ow2 H σ _ _ _ r2 z fun b H1 r1 x1 q1 => ?_
  exact k b H1 (r.ex x1 r1.tb) x1 q1
def putK (f : Str) : List Str → List Str
  | [] => [f]
  | k :: ks => if k = f then k :: ks else k :: putK f ks
def putL {α : Type} (f : Str) (d : α) : List Str → List α → List α
  | [], _ => [d]
  | _ :: _, [] => []
  | k :: ks, x :: l => if k = f then d :: l else x :: putL f d ks l
theorem putF_zip {f : Str} {v : V} : ∀ {ks : List Str} {vs : List V}, vs.length = ks.length → putF f v (ks.zip vs) = (putK f ks).zip (putL f v ks vs)
  | [], vs, h => by rw [List.zip_nil_left]; rfl
  | k :: ks, [], h => by simp at h
  | k :: ks, x :: vs, h => by
    rw [List.zip_cons_cons]
    unfold putF putK putL
    by_cases e : k = f
    · rw [if_pos e, if_pos e, if_pos e, List.zip_cons_cons]
    · rw [if_neg e, if_neg e, if_neg e, List.zip_cons_cons, putF_zip (by simpa using h)]
theorem putL_len {α : Type} {f : Str} {d : α} : ∀ {ks : List Str} {l : List α}, l.length = ks.length → (putL f d ks l).length = (putK f ks).length
  | [], l, h => by unfold putL putK; rfl
  | k :: ks, [], h => by simp at h
  | k :: ks, x :: l, h => by
    unfold putL putK
    by_cases e : k = f
    · rw [if_pos e, if_pos e]; simpa using h
    · rw [if_neg e, if_neg e, List.length_cons, List.length_cons, putL_len (by simpa using h)]
theorem putL_rp {K : PySem.W.Frag} {c : CEnv} {S : Option Addr} {G : Hp} {f : Str} {v : V} {d : Da} (h : Rp K c S G v d) : ∀ {ks : List Str} {vs : List V} {l : List Da}, RpA K c S G vs l → RpA K c S G (putL f v ks vs) (putL f d ks l)
  | [], vs, l, r => by unfold putL; exact rpsOne h
  | k :: ks, vs, [], r => by rw [rps0 r]; unfold putL; exact .nil
  | k :: ks, vs, x :: l, r => by
    obtain ⟨u, ws, rfl, a, b⟩ := rpsC r
    unfold putL
    by_cases e : k = f
    · rw [if_pos e, if_pos e]; exact .cons h b
    · rw [if_neg e, if_neg e]; exact .cons a (putL_rp h b)
def pSetF (i : Nat) (f : Str) (e : PEx) : PSt := fun D ρ => ∃ x gs ks l, ρ[i]? = some (some (.obj x gs ks l)) ∧ gs.contains f = true ∧ ks.length < 1000 ∧ e ρ fun d => D.nx (ρ.set i (some (.obj x gs (putK f ks) (putL f d ks l))))
theorem zip_len {α β : Type} {a : List α} {b : List β} (h : b.length = a.length) : (a.zip b).length = a.length := by rw [List.length_zip, h, Nat.min_self]
theorem sim_setF {i : Nat} {f : Str} {t : TE} {p : PEx} (h : SimE N t p) : SimS N (sFld N.K (tVar i) t f) (pSetF i f p) := by
  intro w H0 B aw ow H σ ρ D D' a r ⟨x, gs, ks, l, el, hc, hk, z⟩
  obtain ⟨b, dx, vs, m, es, ok, eb, hl, rl⟩ := r.sl i _ el
  refine h w H0 B aw ow H σ ρ _ _ r z fun v d H1 r1 x1 h1 q1 => ?_
  have lv := rpsLen rl
  refine ⟨.ref b, es, ?_⟩
  refine z_set ok.1 (x1.lk (r.notSt m) eb) hc (by rw [zip_len (by omega)]; exact hk) ?_
  rw [putF_zip (by omega)]
  have rv := putL_rp (f := f) (ks := ks) h1 (rpsS (x1.dh r) rl)
  have hin : b ∈ (ow.map (·.2) ++ w.O) := List.mem_append_left _ (List.mem_map_of_mem (f := (·.2)) m)
  have ed : ∀ o, dh w ow (upd H1 b o) = dh w ow H1 := fun o => hid_put hin
  have lt := get_lt el
  have r0 : Rel N.K N.c w H0 B ow H1 σ (ρ.set i none) := ⟨r1.occ, r1.dr, r1.nd, r1.inj, r1.fr, r1.fr2, by rw [List.length_set]; exact r1.len, fun j x ej => by
    rw [getElem?_set'] at ej
    by_cases q : i = j
    · rw [if_pos q] at ej; split at ej <;> cases ej
    · rw [if_neg q] at ej; exact r1.sl j x ej, r1.bs, r1.tb⟩
  have r2 := r0.write (o := .ins (N.c.cls x) dx ((putK f ks).zip (putL f v ks vs))) m (fun k x ek mk => by
    have := r0.inj _ mk _ m rfl
    injection this with z _
    subst z
    rw [getElem?_set', if_pos rfl] at ek
    split at ek <;> cases ek)
  refine a.nx ow _ _ _ ⟨r2.occ, r2.dr, r2.nd, r2.inj, r2.fr, r2.fr2, by rw [List.length_set]; exact r.len, fun j x ej => ?_, r2.bs, r2.tb⟩ q1
  rw [getElem?_set'] at ej
  by_cases q : i = j
  · subst q
    rw [if_pos rfl, if_pos lt] at ej
    cases ej
    exact ⟨b, dx, _, m, es, ok, upd_same, putL_len hl, by rw [ed]; exact rv⟩
  · rw [if_neg q] at ej
    exact r2.sl j x (by rw [getElem?_set', if_neg q]; exact ej)
end


section
variable {N : Cn} {w : Pw} {H0 B H H' : Hp} {ow : Ow} {σ : L2.St} {ρ : PEnv}
def pTry (x : Str) (ys : List Str) (pb : WP → PSt) (ps : PSt) (Wo : WP) : PSt := fun D ρ => pb (fun y ρ' => y ∈ ys ∧ if SUB y x = true then ps D ρ' else Wo y ρ') D ρ
def vD : V → Da | .non => .non | .bl b => .bl b | .int i => .int i | .str x => .str x | _ => .non
theorem flat_vD {K : PySem.W.Frag} {c : CEnv} {S : Option Addr} {G : Hp} {v : V} (h : flatV v = true) : Rp K c S G v (vD v) := by
  cases v <;> first | (cases h; done) | constructor
theorem flats_vD {K : PySem.W.Frag} {c : CEnv} {S : Option Addr} {G : Hp} : ∀ {vs : List V}, vs.all flatV = true → RpA K c S G vs (vs.map vD)
  | [], _ => .nil
  | v :: vs, h => by rw [List.all_cons, Bool.and_eq_true] at h; exact .cons (flat_vD h.1) (flats_vD h.2)
def pCstT (xs : List V) : PEx := fun _ Q => Q (.tup (xs.map vD))
theorem sim_cstT {xs : List V} (h : xs.all flatV = true := by rfl) (hm : homV xs = true := by rfl) : SimE N (tCstT N.K xs) (pCstT xs) := fun w H0 B aw ow H σ ρ Q Q' r q k => fun T e => k.flat r (.tup (.inr ⟨e _, hm⟩) (flats_vD h)) q
end
def startP (n : Nat) (ds : List Da) : PEnv := ds.map (fun d => some (.d d)) ++ List.replicate (n - ds.length) none
section
variable {K : PySem.W.Frag} {c : CEnv}
theorem start_rel {S : Option (Addr × Addr)} {O : List Addr} {H : Hp} {vs : List V} {ds : List Da} {Nn : List Str} (oc : Occ H O ∧ LamX.Tabs c.tb H) (dr : ∀ st L, S = some (st, L) → Draw H st L ∧ st ∈ O) (r : RpA K c (S.map (·.1)) (hid H O) vs ds) :
    Rel K c ⟨S, O, (S.map (·.1)).toList, none, fun _ => none⟩ H (hid H O) [] H (L2.start Nn vs) (startP Nn.length ds) := by
  refine ⟨oc.1, fun st L e => ?_, fun p h => by (cases h), fun p h => by (cases h), fun a o _ _ e => e, fun p h => by (cases h), ?_, fun i x e => ?_, Same.refl _, oc.2⟩
  · have e : S = some (st, L) := e
    refine ⟨(dr st L e).1, (dr st L e).2, ?_⟩
    subst e; simp
  · unfold L2.start startP
    simp [rpsLen r]
  · unfold startP at e
    have hl := rpsLen r
    rw [List.getElem?_append] at e
    split at e
    · rename_i lt
      rw [List.length_map] at lt
      rw [List.getElem?_map] at e
      cases ed : ds[i]? with
      | none => rw [ed] at e; cases e
      | some d =>
        rw [ed] at e
        cases e
        obtain ⟨v, ev, rv⟩ := rpsGet r ed
        refine ⟨v, ?_, rv⟩
        unfold L2.start
        rw [List.getElem?_append_left (by rw [List.length_map]; omega), List.getElem?_map, ev]; rfl
    · rw [List.getElem?_replicate] at e
      split at e <;> cases e
theorem Rel.exO {S : Option (Addr × Addr)} {O : List Addr} {H0 B H : Hp} {ow : Ow} {σ : L2.St} {ρ : PEnv} (r : Rel K c ⟨S, O, (S.map (·.1)).toList, none, fun _ => none⟩ H0 B ow H σ ρ) : ExC c S H0 H := by
  refine ⟨⟨fun a o n t e => r.fr a o (fun m => ?_) t e, fun st L e => (r.dr st L e).1⟩, r.tb⟩
  cases S with
  | none => simp at m
  | some z => obtain ⟨st, L⟩ := z; simp at m; exact n st L rfl m
theorem out_rp {S : Option (Addr × Addr)} {O M : List Addr} {H : Hp} {ow : Ow} {v : V} {d : Da} (h : Rp K c (S.map (·.1)) (dh ⟨S, O, M, none, fun _ => none⟩ ow H) v d) : Rp K c (S.map (·.1)) (hid H O) v d := rpS (hid_sub fun a ha => List.mem_append_right _ ha) h
theorem wd_lift {T : TS} {P : PSt} {Nn : List Str} {n : Nat} {ps : PSp} (hS : SimS ⟨K, c, W0, fun _ _ => False⟩ T P) (hp : ∀ ds Q E, ps ds Q E → ds.length = n ∧ P { nx := fun _ => Q .non, rt := Q } (startP Nn.length ds)) : Wd T Nn n (lift K c ps) := by
  rintro vs H Q E ⟨S, O, ds, Q', E', oc, dr, r, p, q, _⟩
  obtain ⟨hl, z⟩ := hp ds Q' E' p
  refine ⟨(rpsLen r).trans hl, ?_⟩
  refine hS ⟨S, O, (S.map (·.1)).toList, none, fun _ => none⟩ H (hid H O) (fun _ _ _ _ _ _ f => f.elim) [] H _ _ _ { nx := fun _ => Q' .non, rt := Q' } ⟨fun ow H1 σ ρ r1 q1 => q _ _ H1 r1.exO .non q1, fun _ _ _ _ _ f => f.elim, fun _ _ _ _ _ f => f.elim, fun ow H1 σ ρ v d r1 h1 q1 => q v d H1 r1.exO (out_rp h1) q1, fun _ _ _ _ _ _ _ _ f => f.elim⟩ (start_rel oc dr r) z
theorem wd_liftX {T : WX → TS} {P : WP → PSt} {Nn : List Str} {n : Nat} {ps : PSp} (hS : ∀ W Wp, SimS ⟨K, c, W, Wp⟩ (T W) (P Wp)) (hp : ∀ ds Q E, ps ds Q E → ds.length = n ∧ P (fun x _ => E x) { nx := fun _ => Q .non, rt := Q } (startP Nn.length ds)) : WdX T Nn n (lift K c ps) := by
  rintro vs H Q E ⟨S, O, ds, Q', E', oc, dr, r, p, q, qe⟩
  obtain ⟨hl, z⟩ := hp ds Q' E' p
  refine ⟨(rpsLen r).trans hl, ?_⟩
  refine hS _ _ ⟨S, O, (S.map (·.1)).toList, none, fun _ => none⟩ H (hid H O) (fun x ow H1 σ ρ r1 e1 => qe x H1 r1.exO e1) [] H _ _ _ { nx := fun _ => Q' .non, rt := Q' } ⟨fun ow H1 σ ρ r1 q1 => q _ _ H1 r1.exO .non q1, fun _ _ _ _ _ f => f.elim, fun _ _ _ _ _ f => f.elim, fun ow H1 σ ρ v d r1 h1 q1 => q v d H1 r1.exO (out_rp h1) q1, fun _ _ _ _ _ _ _ _ f => f.elim⟩ (start_rel oc dr r) z
def startI (x : Str) (gs : List Str) (n : Nat) (ds : List Da) : PEnv := some (.obj x gs [] []) :: startP (n - 1) ds
theorem start_relI {S : Option (Addr × Addr)} {O : List Addr} {H : Hp} {vs : List V} {ds : List Da} {Nn : List Str} {x : Str} {gs : List Str} {p dx : Addr} (oc : Occ H O ∧ LamX.Tabs c.tb H) (dr : ∀ st L, S = some (st, L) → Draw H st L ∧ st ∈ O ∧ p ≠ st ∧ p ≠ L) (ok : ClsOk K c x gs) (hp : H p = some (.ins (c.cls x) dx [])) (np : p ∉ O) (r : RpA K c (S.map (·.1)) (hid H (p :: O)) vs ds) (hn : 0 < Nn.length) :
    Rel K c ⟨S, O, p :: (S.map (·.1)).toList, some p, fun _ => none⟩ H (hid H (p :: O)) [(0, p)] H (L2.start Nn (.ref p :: vs)) (startI x gs Nn.length ds) := by
  obtain ⟨n0, Nr, rfl⟩ : ∃ a l, Nn = a :: l := by cases Nn with | nil => simp at hn | cons a l => exact ⟨a, l, rfl⟩
  refine ⟨Occ.cons hp oc.1, fun st L e => ?_, fun q h => ?_, fun q h q' h' _ => ?_, fun a o _ _ e => e, fun q h => ?_, ?_, fun i y e => ?_, Same.refl _, oc.2⟩
  · have e : S = some (st, L) := e
    refine ⟨(dr st L e).1, (dr st L e).2.1, ?_⟩
    subst e; simp
  · obtain rfl := List.mem_singleton.mp h
    exact ⟨fun st L e => (dr st L e).2.2, np⟩
  · rw [List.mem_singleton.mp h, List.mem_singleton.mp h']
  · obtain rfl := List.mem_singleton.mp h
    exact .inr (List.mem_cons_self ..)
  · unfold L2.start startI startP
    simp [rpsLen r]
  · unfold startI at e
    cases i with
    | zero =>
      cases e
      exact ⟨p, dx, [], List.mem_cons_self .., by unfold L2.start; rfl, ⟨ok, rfl⟩, by rw [hp]; rfl, rfl, .nil⟩
    | succ i =>
      rw [List.getElem?_cons_succ] at e
      unfold startP at e
      have hl := rpsLen r
      rw [List.getElem?_append] at e
      split at e
      · rename_i lt
        rw [List.length_map] at lt
        rw [List.getElem?_map] at e
        cases ed : ds[i]? with
        | none => rw [ed] at e; cases e
        | some d =>
          rw [ed] at e
          cases e
          obtain ⟨v, ev, rv⟩ := rpsGet r ed
          refine ⟨v, ?_, rv⟩
          unfold L2.start
          rw [List.map_cons, List.cons_append, List.getElem?_cons_succ, List.getElem?_append_left (by rw [List.length_map]; omega), List.getElem?_map, ev]; rfl
      · rw [List.getElem?_replicate] at e
        split at e <;> cases e
theorem Rel.exI {S : Option (Addr × Addr)} {O : List Addr} {p : Addr} {H0 B H : Hp} {ow : Ow} {σ : L2.St} {ρ : PEnv} (r : Rel K c ⟨S, O, p :: (S.map (·.1)).toList, some p, fun _ => none⟩ H0 B ow H σ ρ) : (∀ a o, (∀ st L, S = some (st, L) → a ≠ st) → a ≠ p → Nt o → H0 a = some o → H a = some o) ∧ (∀ st L, S = some (st, L) → Draw H st L) ∧ LamX.Tabs c.tb H := by
  refine ⟨fun a o n np t e => r.fr a o (fun m => ?_) t e, fun st L e => (r.dr st L e).1, r.tb⟩
  cases S with
  | none => simp at m; exact np m
  | some z =>
    obtain ⟨st, L⟩ := z; simp at m
    rcases m with m | m
    · exact np m
    · exact n st L rfl m
def endI (x : Str) (gs : List Str) (Q : List Da → Prop) : PEnv → Prop := fun ρ => ∃ l, ρ[0]? = some (some (.obj x gs gs l)) ∧ Q l
theorem end_rpI {S : Option (Addr × Addr)} {O : List Addr} {p : Addr} {H0 B H : Hp} {ow : Ow} {σ : L2.St} {ρ : PEnv} {x : Str} {gs : List Str} {l : List Da} (r : Rel K c ⟨S, O, p :: (S.map (·.1)).toList, some p, fun _ => none⟩ H0 B ow H σ ρ) (e : ρ[0]? = some (some (.obj x gs gs l))) : Rp K c (S.map (·.1)) (hid H O) (.ref p) (.ins x gs l) := by
  obtain ⟨b, dx, vs, m, es, ⟨ok, eq⟩, eb, hl, rl⟩ := r.sl 0 _ e
  obtain rfl : p = b := Option.some.inj eq
  exact .ins ok (hid_lk (r.nd _ m).2 eb) hl (rpsS (hid_sub fun a ha => List.mem_append_right _ ha) rl)
theorem end_rpJ {S : Option (Addr × Addr)} {O : List Addr} {p : Addr} {H0 B H : Hp} {ow : Ow} {σ : L2.St} {ρ : PEnv} {x : Str} {gs : List Str} {l : List Da} (r : Rel K c ⟨S, O, p :: (S.map (·.1)).toList, some p, fun _ => none⟩ H0 B ow H σ ρ) (e : ρ[0]? = some (some (.obj x gs gs l))) : ∃ d2 xs, H p = some (.ins (c.cls x) d2 (gs.zip xs)) ∧ l.length = gs.length ∧ RpA K c (S.map (·.1)) (hid H (p :: O)) xs l := by
  obtain ⟨b, dx, vs, m, es, ⟨ok, eq⟩, eb, hl, rl⟩ := r.sl 0 _ e
  obtain rfl : p = b := Option.some.inj eq
  refine ⟨dx, vs, eb, hl, rpsS (hid_sub fun a ha => ?_) rl⟩
  rcases List.mem_cons.mp ha with rfl | ha
  · exact List.mem_append_left _ (List.mem_map_of_mem (f := (·.2)) m)
  · exact List.mem_append_right _ ha
theorem wd_liftIX {T : WX → TS} {P : WP → PSt} {Nn : List Str} {n : Nat} {x : Str} {gs : List Str} {ps : PSi} (hS : ∀ W Wp, SimS ⟨K, c, W, Wp⟩ (T W) (P Wp)) (hn : 0 < Nn.length) (hp : ∀ ds Q E, ps ds Q E → ds.length + 1 = n ∧ P (fun y _ => E y) { nx := endI x gs Q, rt := fun _ => False } (startI x gs Nn.length ds)) : WdX T Nn n (liftI K c x gs ps) := by
  rintro us H Q E ⟨S, O, p, dx, vs, ds, Q', E', rfl, oc, dr, ok, hp', np, r, z, q, qe⟩
  obtain ⟨hl, z⟩ := hp ds Q' E' z
  refine ⟨by rw [List.length_cons, rpsLen r]; exact hl, ?_⟩
  refine hS _ _ ⟨S, O, p :: (S.map (·.1)).toList, some p, fun _ => none⟩ H _ (fun y ow H1 σ ρ r1 e1 => qe y H1 r1.exI.1 r1.exI.2 e1) _ H _ _ _ { nx := endI x gs Q', rt := fun _ => False } ⟨fun ow H1 σ ρ r1 ⟨l, e1, q1⟩ => q l H1 r1.exI.1 r1.exI.2 (end_rpI r1 e1) (end_rpJ r1 e1) q1, fun _ _ _ _ _ f => f.elim, fun _ _ _ _ _ f => f.elim, fun _ _ _ _ _ _ _ _ f => f.elim, fun _ _ _ _ _ _ _ _ f => f.elim⟩ (start_relI oc dr ok hp' np r hn) z
end

namespace ZG
open PySem PySem.SeqAt GQ
open MeetsSeq MeetsSeq2 MeetsSeq3 SeqRoads2
section
variable {prog : Program} {w : World} {A : Around} {R : Result → Shared → Prop}
end
section
variable {prog : Program} {w : World} {A : Around} {E : Value → Shared → Prop} {s : Shared}
end
end ZG

abbrev ETab := List (Str × PSp)
def CqX (tab : ETab) : Nat → Da → Da → Prop
  | 0, x, y => flD x = true ∧ flD y = true
  | n + 1, x, y => (flD x = true ∧ flD y = true) ∨ (∃ a b, x = .tup a ∧ y = .tup b ∧ ∀ (i : Nat) (u v : Da), a[i]? = some u → b[i]? = some v → CqX tab n u v) ∨
      (∃ a b, x = .lst a ∧ y = .lst b ∧ ∀ (i : Nat) (u v : Da), a[i]? = some u → b[i]? = some v → CqX tab n u v) ∨
      ∃ k ks a, x = .ins k ks a ∧ (∃ ps, (k, ps) ∈ tab ∧ ps [x, y] (fun r => r = .bl (eqD x y)) (fun _ => False)) ∧ eqD x x = true ∧ ((∃ k2 ks2 b, y = .ins k2 ks2 b ∧ (k2 = k ∨ ((∃ ps2, (k2, ps2) ∈ tab) ∧ SUB k2 k = false))) ∨ okTy y = true)
section
variable {X : Cx} {c : CEnv} {k : Nat} {tab : ETab} {S : Option (Addr × Addr)} {O : List Addr}
def GoodH (c : CEnv) (S : Option (Addr × Addr)) (O : List Addr) (H : Hp) : Prop := (Occ H O ∧ LamX.Tabs c.tb H) ∧ ∀ st L, S = some (st, L) → Draw H st L ∧ st ∈ O
theorem GoodH.ex {H H' : Hp} (g : GoodH c S O H) (x : ExC c S H H') : GoodH c S O H' := ⟨⟨g.1.1.ex x.1, x.2⟩, fun st L e => ⟨x.1.2 st L e, (g.2 st L e).2⟩⟩
theorem ExC.trans {H H1 H2 : Hp} (x : ExC c S H H1) (y : ExC c S H1 H2) : ExC c S H H2 := ⟨Ex.trans x.1 y.1, y.2⟩
theorem ExC.at {H : Hp} (g : GoodH c S O H) : ExC c S H H := ⟨Ex.of (Same.refl H) fun st L e => (g.2 st L e).1, g.1.2⟩
def RcGX (X : Cx) (c : CEnv) (n : Nat) (S : Option (Addr × Addr)) (O : List Addr) (d e : Da) : Prop := ∀ (A : Around) (pins : List (Addr × Obj)) (s : Shared) (σ : L2.St) (H : Hp) (x y : V) (u v : Value), Sub X n A → Inv X pins σ H s → GoodH c S O H → RelV x u → RelV y v → Rp X.K c (S.map (·.1)) (hid H O) x d → Rp X.K c (S.map (·.1)) (hid H O) y e →
  wpAny (model X.prog X.w) A (richCompare .Eq u v) (fun r s' => r = .bool (eqD d e) ∧ ∃ H', Inv X pins σ H' s' ∧ ExC c S H H') X.xe s
theorem zip_inj {α : Type} : ∀ {ks ls : List Str} {vs us : List α}, vs.length = ks.length → us.length = ls.length → ks.zip vs = ls.zip us → ks = ls ∧ vs = us
  | [], [], [], [], _, _, _ => ⟨rfl, rfl⟩
  | [], [], v :: vs, _, h, _, _ => by simp at h
  | [], [], [], u :: us, _, h, _ => by simp at h
  | [], l :: ls, _, [], _, h, _ => by simp at h
  | [], l :: ls, _, u :: us, _, _, e => by simp at e
  | k :: ks, _, [], _, h, _, _ => by simp at h
  | k :: ks, [], v :: vs, us, _, _, e => by simp at e
  | k :: ks, l :: ls, v :: vs, [], _, h, _ => by simp at h
  | k :: ks, l :: ls, v :: vs, u :: us, h1, h2, e => by
    rw [List.zip_cons_cons, List.zip_cons_cons] at e
    injection e with e1 e2
    injection e1 with e3 e4
    obtain ⟨a, b⟩ := zip_inj (by simpa using h1) (by simpa using h2) e2
    exact ⟨by rw [e3, a], by rw [e4, b]⟩
theorem tup_not_lst {pins : List (Addr × Obj)} {σ : L2.St} {H : Hp} {s : Shared} {a : Addr} {xs ys : List V} (I : Inv X pins σ H s) (h1 : SqT X.K H a xs) (h2 : H a = some (.lst ys)) : False := by
  obtain ⟨_, _, ⟨o, e, c, _⟩, _⟩ := I.tuple h1
  obtain ⟨_, _, p, _⟩ := I.list (SqL.of h2)
  obtain ⟨o2, n, e2, c2, _⟩ := p
  rw [e] at e2
  cases e2
  have z := c.symm.trans c2
  injection z with z
  exact absurd z (by decide)
theorem tup_not_ins {pins : List (Addr × Obj)} {σ : L2.St} {H : Hp} {s : Shared} {a C dx : Addr} {xs : List V} {fs : List (Str × V)} (I : Inv X pins σ H s) (h1 : SqT X.K H a xs) (h2 : H a = some (.ins C dx fs)) : False := by
  obtain ⟨_, _, ⟨o, e, c, _⟩, _⟩ := I.tuple h1
  obtain ⟨m, J, _⟩ := ins_get I.hok h2
  have z := J.obj
  rw [e] at z
  cases z
  cases c
mutual
theorem Rp.det {pins : List (Addr × Obj)} {σ : L2.St} {H : Hp} {s : Shared} (I : Inv X pins σ H s) (g : GoodH c S O H) : ∀ (d : Da) (v : V) (e : Da), Rp X.K c (S.map (·.1)) (hid H O) v d → Rp X.K c (S.map (·.1)) (hid H O) v e → d = e
  | .non, _, e, h1, h2 => by cases h1; cases h2; rfl
  | .bl _, _, e, h1, h2 => by cases h1; cases h2; rfl
  | .int _, _, e, h1, h2 => by cases h1; cases h2; rfl
  | .str _, _, e, h1, h2 => by cases h1; cases h2; rfl
  | .ty _, _, e, h1, h2 => by cases h1; cases h2; rfl
  | .st, v, e, h1, h2 => by
    obtain ⟨a, ha, rfl⟩ := rpSt h1
    obtain ⟨L, hs⟩ : ∃ L, S = some (a, L) := by
      cases S with
      | none => cases ha
      | some z => cases ha; exact ⟨z.2, rfl⟩
    obtain ⟨dr, hO⟩ := g.2 _ _ hs
    cases h2 with
    | st _ => rfl
    | tup hq _ =>
      obtain ⟨_, _, _, e1, _⟩ := dr.ex
      exact (tup_not_lst I (Same.sqT hid_le hq.sq) e1).elim
    | lst hq _ => rw [hid_in hO] at hq; cases hq
    | ins _ hq _ _ => rw [hid_in hO] at hq; cases hq
  | .tup ds, v, e, h1, h2 => by
    obtain ⟨a, xs, rfl, e1, r1⟩ := rpT h1
    cases h2 with
    | st hs =>
      obtain ⟨L, hs⟩ : ∃ L, S = some (a, L) := by
        cases S with
        | none => cases hs
        | some z => cases hs; exact ⟨z.2, rfl⟩
      obtain ⟨_, _, _, e2, _⟩ := (g.2 _ _ hs).1.ex
      exact (tup_not_lst I (Same.sqT hid_le e1) e2).elim
    | tup hq hr =>
      obtain rfl := I.tuple_inj (Same.sqT hid_le e1) (Same.sqT hid_le hq.sq)
      rw [RpA.det I g ds _ _ r1 hr]
    | lst hq _ => exact (tup_not_lst I (Same.sqT hid_le e1) (hid_le _ _ hq)).elim
    | ins _ hq _ _ => exact (tup_not_ins I (Same.sqT hid_le e1) (hid_le _ _ hq)).elim
  | .lst ds, v, e, h1, h2 => by
    obtain ⟨a, xs, rfl, e1, r1⟩ := rpL h1
    cases h2 with
    | st hs =>
      obtain ⟨L, hs⟩ : ∃ L, S = some (a, L) := by
        cases S with
        | none => cases hs
        | some z => cases hs; exact ⟨z.2, rfl⟩
      rw [hid_in (g.2 _ _ hs).2] at e1; cases e1
    | tup hq hr => exact (tup_not_lst I (Same.sqT hid_le hq.sq) (hid_le _ _ e1)).elim
    | lst hq hr =>
      rw [e1] at hq
      cases hq
      rw [RpA.det I g ds _ _ r1 hr]
    | ins _ hq _ _ => rw [e1] at hq; cases hq
  | .ins x ks ds, v, e, h1, h2 => by
    obtain ⟨a, dx, xs, rfl, ok, e1, hl, r1⟩ := rpO h1
    cases h2 with
    | st hs =>
      obtain ⟨L, hs⟩ : ∃ L, S = some (a, L) := by
        cases S with
        | none => cases hs
        | some z => cases hs; exact ⟨z.2, rfl⟩
      rw [hid_in (g.2 _ _ hs).2] at e1; cases e1
    | tup hq hr => exact (tup_not_ins I (Same.sqT hid_le hq.sq) (hid_le _ _ e1)).elim
    | lst hq _ => rw [e1] at hq; cases hq
    | ins ok2 hq hl2 hr =>
      rw [e1] at hq
      injection hq with hq
      injection hq with c1 _ z
      obtain rfl := ok.inj _ ok2.al c1
      have l1 := rpsLen r1
      have l2 := rpsLen hr
      obtain ⟨rfl, rfl⟩ := zip_inj (by omega) (by omega) z
      rw [RpA.det I g ds _ _ r1 hr]
theorem RpA.det {pins : List (Addr × Obj)} {σ : L2.St} {H : Hp} {s : Shared} (I : Inv X pins σ H s) (g : GoodH c S O H) : ∀ (ds : List Da) (vs : List V) (es : List Da), RpA X.K c (S.map (·.1)) (hid H O) vs ds → RpA X.K c (S.map (·.1)) (hid H O) vs es → ds = es
  | [], _, es, h1, h2 => by cases h1; cases h2; rfl
  | d :: ds, _, es, h1, h2 => by
    obtain ⟨v, ws, rfl, a, b⟩ := rpsC h1
    obtain ⟨e, es', rfl, a2, b2⟩ := rpsC' h2
    rw [Rp.det I g d v e a a2, RpA.det I g ds ws es' b b2]
end
theorem eq0_refl : ∀ d : Da, flD d = true → eq0 d d = true
  | .non, _ => rfl
  | .bl b, _ => by simp [eq0]
  | .int b, _ => by simp [eq0]
  | .str b, _ => by simp [eq0]
  | .st, h => by cases h
  | .ty _, h => by cases h
  | .tup _, h => by cases h
  | .lst _, h => by cases h
  | .ins _ _ _, h => by cases h
theorem eqD_flat {d e : Da} (h1 : flD d = true) (h2 : flD e = true) : eqD d e = eq0 d e := by
  cases d <;> first | (cases h1; done) | skip
  all_goals cases e <;> first | (cases h2; done) | (simp only [eqD])
theorem eqDs_refl : ∀ {l : List Da}, (∀ d ∈ l, eqD d d = true) → eqDs l l = true
  | [], _ => rfl
  | d :: l, h => by unfold eqDs; rw [h d (List.mem_cons_self ..), eqDs_refl fun x hx => h x (List.mem_cons_of_mem _ hx)]; rfl
theorem CqX.refl : ∀ {n : Nat} {d : Da}, CqX tab n d d → eqD d d = true
  | 0, d, h => by rw [eqD_flat h.1 h.2]; exact eq0_refl d h.1
  | n + 1, d, h => by
    rcases h with h | ⟨a, b, rfl, e, h⟩ | ⟨a, b, rfl, e, h⟩ | ⟨k, ks, a, rfl, _, h, _⟩
    · rw [eqD_flat h.1 h.2]; exact eq0_refl d h.1
    · cases e
      simp only [eqD]
      exact eqDs_refl fun x hx => by
        obtain ⟨i, hi⟩ := List.mem_iff_getElem?.mp hx
        exact CqX.refl (h i x x hi hi)
    · cases e
      simp only [eqD]
      exact eqDs_refl fun x hx => by
        obtain ⟨i, hi⟩ := List.mem_iff_getElem?.mp hx
        exact CqX.refl (h i x x hi hi)
    · exact h
theorem RcGX.mono {n m : Nat} {d e : Da} (h : RcGX X c n S O d e) (l : n ≤ m) : RcGX X c m S O d e := fun A pins s σ H x y u v sb => h A pins s σ H x y u v (sb.mono l)
end
section
variable {N : Cn}
end

def pNewL (p : PAr) : PAr := fun ρ Q => p ρ fun ds => ds.length ≤ 100000 ∧ Q ds
def listF1 (ds : List Da) (Q : List Da → Prop) : Prop := match ds with
  | [.lst l] => Q l
  | [.tup l] => Q l
  | _ => False
def pListF (p : PAr) : PAr := fun ρ Q => p ρ fun ds => listF1 ds Q
def addF1 (x y : Da) (Q : List Da → Prop) : Prop := match x, y with
  | .lst l, .lst m => l.length + m.length ≤ 100000 ∧ Q (l ++ m)
  | _, _ => False
def pAddF (a b : PEx) : PAr := fun ρ Q => a ρ fun x => b ρ fun y => addF1 x y Q
def slF1 (d : Da) (lo hi : Option Int) (Q : List Da → Prop) : Prop := match d with
  | .lst xs => Q (cutD xs lo hi)
  | _ => False
def pSlF (a : PEx) (l h : POp) : PAr := fun ρ Q => a ρ fun d => l ρ fun lo => h ρ fun hi => slF1 d lo hi Q
section
variable {N : Cn} {w : Pw} {H0 B H H' : Hp} {ow : Ow} {σ : L2.St} {ρ : PEnv}
end

def ps_law_next : PSp := fun ds Q _ => ∃ m : Int, ds = [.st, .int m] ∧ 0 < m ∧ m < 1000000000000000000 ∧ ∀ r : Int, 0 ≤ r → r < m → Q (.int r)
theorem b_law_next {K : PySem.W.Frag} {c : CEnv} : SpSim K c (sp_law_next K) ps_law_next := by
  rintro S O H vs ds Q E Q' E' oc dr r ⟨m, rfl, h0, h1, q⟩ k _
  obtain ⟨v, u, rfl, a, b⟩ := rps2 r
  cases b
  obtain ⟨st, hs, rfl⟩ := rpSt a
  obtain ⟨L, hs⟩ : ∃ L, S = some (st, L) := by
    cases S with
    | none => cases hs
    | some z => cases hs; exact ⟨z.2, rfl⟩
  refine ⟨st, L, m, rfl, (dr _ _ hs).1, h0, h1, fun r H' h2 h3 d _ ne => k _ _ H' ⟨⟨fun a o n _ e => ?_, fun st' L' e => ?_⟩, ?_⟩ (.int r) (q r h2 h3)⟩
  · rw [ne a (n _ _ hs)]; exact e
  · rw [hs] at e; cases e; exact d
  · obtain ⟨oS, eS, nS⟩ := (dr _ _ hs).1.occP
    intro p hp
    obtain ⟨ps, h1, h2, h3⟩ := oc.2 p hp
    refine ⟨ps, (ne _ (fun z => ?_)).trans h1, h2, fun pos cv hc => ?_⟩
    · rw [← z, h1] at eS; cases eS; exact nS.1 _ rfl
    · obtain ⟨c', e1, e2⟩ := h3 pos cv hc
      refine ⟨c', e1, (ne _ (fun z => ?_)).trans e2⟩
      rw [← z, e2] at eS; cases eS; exact nS.2 _ rfl
theorem next_c {n : Int} {Q : Da → Prop} {E : Str → Prop} (h0 : 0 < n) (h1 : n < 1000000000000000000) (k : ∀ r : Int, 0 ≤ r → r < n → Q (.int r)) : ps_law_next [.st, .int n] Q E := ⟨n, rfl, h0, h1, k⟩
def sp_lawT (K : PySem.W.Frag) (c : CEnv) : Sp := fun vs H Q _ => ∃ (a : Addr) (ns : List Int), vs = [.ref a] ∧ SqL K H a (ns.map V.int) ∧ ns.length ≤ 63 ∧ LamX.Tabs c.tb H ∧ ∀ H', Q (.bl true) H'
theorem wd_law {K : PySem.W.Frag} {c : CEnv} {T : TS} {P : PSt} {Nn : List Str} {m : Nat} (hS : SimS ⟨K, c, W0, fun _ _ => False⟩ T P) (hn : Nn.length = m + 2) (hp : P { nx := fun _ => False, rt := fun d => d = .bl true } (none :: some (.d .st) :: List.replicate m none)) :
    Wd (tSeq (tAsg (tLst (tCons (tCB (uList K) (tCons (tVar 0) tNil)) (tCons (tC (.int 0)) (tCons (tC (.int 0)) tNil)))) (gName 1)) T) Nn 1 (sp_lawT K c) := by
  rintro vs H Q E ⟨a, ns, rfl, ha, hl, tb, q⟩
  refine ⟨rfl, ?_⟩
  have es : L2.start Nn [V.ref a] = some (V.ref a) :: none :: List.replicate m none := by
    unfold L2.start; rw [hn]; rfl
  rw [es]
  refine z_seq (z_asg (z_lst (z_cons (z_cb (z_cons (z_var rfl (z_nil ?_)))))))
  refine z_list (.inl ha) fun L hL => ?_
  refine z_cons (z_c (z_cons (z_c (z_nil ?_))))
  refine z_newL (by simp) fun st hst => ?_
  have d := Draw.start (ns := ns) hL hst
  have tb := tabs_free (o := .lst [V.ref L, V.int 0, V.int 0]) hst (tabs_free (o := .lst (ns.map V.int)) hL tb)
  show T _ (some (V.ref a) :: some (.ref st) :: List.replicate m none) _
  obtain ⟨oS, hS0, nS⟩ := d.occP
  generalize upd (upd H L (HO.lst (List.map V.int ns))) st (HO.lst [V.ref L, V.int 0, V.int 0]) = G at *
  refine hS ⟨some (st, L), [st], [st], none, fun _ => none⟩ G (hid G [st]) (fun _ _ _ _ _ _ f => f.elim) [] _ _ (none :: some (.d .st) :: List.replicate m none) _ { nx := fun _ => False, rt := fun d => d = .bl true } ⟨fun _ _ _ _ _ f => f.elim, fun _ _ _ _ _ f => f.elim, fun _ _ _ _ _ f => f.elim, fun ow H1 σ ρ v d r1 h1 q1 => ?_, fun _ _ _ _ _ _ _ _ f => f.elim⟩ ?_ hp
  · have q1 : d = .bl true := q1
    subst q1
    rw [rpB h1]
    exact q H1
  · refine ⟨?_, fun st' L' e => ?_, fun p h => by (cases h), fun p h => by (cases h), fun a o _ _ e => e, fun p h => by (cases h), ?_, fun i x e => ?_, Same.refl _, tb⟩
    · exact Occ.cons hS0 Occ.nil nS
    · cases e; exact ⟨d, List.mem_cons_self .., List.mem_cons_self ..⟩
    · simp
    · match i with
      | 0 => cases e
      | 1 => cases e; exact ⟨.ref st, rfl, .st rfl⟩
      | i + 2 =>
        rw [List.getElem?_cons_succ, List.getElem?_cons_succ, List.getElem?_replicate] at e
        split at e <;> cases e

section
variable {ρ : PEnv} {Q : Da → Prop} {QA : List Da → Prop} {QB : Bool → Prop} {d x y : Da} {i j : Int} {n : Nat} {a b e : PEx} {t u : PAr} {c c2 : PTe} {D : PD} {p q : PSt} {l l2 ds : List Da} {s s2 f : Str} {bb b2 : Bool} {ps : PSp} {g : PTg} {Wp : WP} {r r2 : PR2} {k : Nat}
theorem p_var (h : ρ[n]? = some (some (.d d))) (k : Q d) : pVar n ρ Q := ⟨d, h, k⟩
theorem p_c (k : Q d) : pC d ρ Q := k
theorem p_nil (k : QA []) : pNil ρ QA := k
theorem p_cons (k : a ρ fun x => t ρ fun xs => QA (x :: xs)) : pCons a t ρ QA := k
theorem p_op (k : a ρ fun x => b ρ fun y => r x y Q) : pOp r a b ρ Q := k
theorem p_un {r1 : PR1} (k : a ρ fun x => r1 x Q) : pUn r1 a ρ Q := k
theorem p_cb {rl : PRl} (k : t ρ fun x => rl x Q) : pCB rl t ρ Q := k
theorem p_lst (k : t ρ fun ds => ds.length ≤ 100000 ∧ Q (.lst ds)) : pLst t ρ Q := k
theorem p_tup (k : t ρ fun ds => ds.length ≤ 100000 ∧ Q (.tup ds)) : pTup t ρ Q := k
theorem p_nl {P : Prop} (h : ds.length ≤ 100000) (k : P) : ds.length ≤ 100000 ∧ P := ⟨h, k⟩
theorem p_test (k : a ρ fun d => ∃ b, d = .bl b ∧ QB b) : pTest a ρ QB := k
theorem p_bl {P : Bool → Prop} (k : P bb) : ∃ b, Da.bl bb = .bl b ∧ P b := ⟨bb, rfl, k⟩
theorem p_tru (k : a ρ fun d => ∃ b, truD d b ∧ QB b) : pTru a ρ QB := k
theorem p_trb {P : Bool → Prop} (k : P bb) : ∃ b, truD (.bl bb) b ∧ P b := ⟨bb, rfl, k⟩
theorem p_tri {P : Bool → Prop} (k : P (i != 0)) : ∃ b, truD (.int i) b ∧ P b := ⟨_, rfl, k⟩
theorem p_trl {P : Bool → Prop} (k : P (!l.isEmpty)) : ∃ b, truD (.lst l) b ∧ P b := ⟨_, rfl, k⟩
theorem p_trt {P : Bool → Prop} (k : P (!l.isEmpty)) : ∃ b, truD (.tup l) b ∧ P b := ⟨_, rfl, k⟩
theorem p_trn {P : Bool → Prop} (k : P false) : ∃ b, truD .non b ∧ P b := ⟨_, rfl, k⟩
theorem p_and (k : c ρ fun b => if b = true then c2 ρ QB else QB false) : pAnd c c2 ρ QB := k
theorem p_or (k : c ρ fun b => if b = true then QB true else c2 ρ QB) : pOr c c2 ρ QB := k
theorem p_not (k : c ρ fun b => QB (!b)) : pNot c ρ QB := k
theorem p_andV (k : a ρ fun x => ∃ k, x = .bl k ∧ if k = true then b ρ Q else Q (.bl false)) : pAndV a b ρ Q := k
theorem p_orV (k : a ρ fun x => ∃ k, x = .bl k ∧ if k = true then Q (.bl true) else b ρ Q) : pOrV a b ρ Q := k
theorem p_notV (k : a ρ fun x => ∃ k, x = .bl k ∧ Q (.bl (!k))) : pNotV a ρ Q := k
theorem p_if (k : c ρ fun k => if k = true then a ρ Q else b ρ Q) : pIf c a b ρ Q := k
theorem p_chain (k : a ρ fun x => b ρ fun y => r x y fun z => ∃ k, z = .bl k ∧ if k = true then e ρ fun u => r2 y u Q else Q (.bl false)) : pChain r r2 a b e ρ Q := k
theorem p_yes (k : QB true) : pYes ρ QB := k
theorem p_fldt (k : a ρ fun d => ∃ x ks l y, d = .ins x ks l ∧ (ks.zip l).lookup f = some y ∧ Q y) : pFld a f ρ Q := k
theorem p_fld {P : Da → Prop} {X : Str} {KS : List Str} {L : List Da} (h : (KS.zip L).lookup f = some d) (k : P d) : ∃ x ks l y, Da.ins X KS L = .ins x ks l ∧ (ks.zip l).lookup f = some y ∧ P y := ⟨X, KS, L, d, rfl, h, k⟩
-- operators
theorem p_add (k : Q (.int (i + j))) : pAdd (.int i) (.int j) Q := k
theorem p_addS (h : s.length + s2.length ≤ 100000) (k : Q (.str (s ++ s2))) : pAdd (.str s) (.str s2) Q := ⟨h, k⟩
theorem p_addL (h : l.length + l2.length ≤ 100000) (k : Q (.lst (l ++ l2))) : pAdd (.lst l) (.lst l2) Q := ⟨h, k⟩
theorem p_sub (k : Q (.int (i - j))) : pSub (.int i) (.int j) Q := k
theorem p_mul (h : MulOk i j) (k : Q (.int (i * j))) : pMul (.int i) (.int j) Q := ⟨h, k⟩
theorem p_div (h : CDivW i j) (k : Q (.int (i / j))) : pDiv (.int i) (.int j) Q := ⟨h, k⟩
theorem p_mod (h : 0 < j) (k : Q (.int (i % j))) : pMod (.int i) (.int j) Q := ⟨h, k⟩
theorem p_pow (h : CPow i j) (k : Q (.int (i ^ j.toNat))) : pPow (.int i) (.int j) Q := ⟨h, k⟩
theorem p_neg (k : Q (.int (-i))) : pNeg (.int i) Q := k
theorem p_lt (k : Q (.bl (decide (i < j)))) : pLt (.int i) (.int j) Q := k
theorem p_ltS (k : Q (.bl (decide (s.cps.toList < s2.cps.toList)))) : pLt (.str s) (.str s2) Q := k
theorem p_le (k : Q (.bl (decide (i ≤ j)))) : pLe (.int i) (.int j) Q := k
theorem p_leS (k : Q (.bl (!decide (s2.cps.toList < s.cps.toList)))) : pLe (.str s) (.str s2) Q := k
theorem p_gt (k : Q (.bl (decide (j < i)))) : pGt (.int i) (.int j) Q := k
theorem p_gtS (k : Q (.bl (decide (s2.cps.toList < s.cps.toList)))) : pGt (.str s) (.str s2) Q := k
theorem p_ge (k : Q (.bl (decide (j ≤ i)))) : pGe (.int i) (.int j) Q := k
theorem p_geS (k : Q (.bl (!decide (s.cps.toList < s2.cps.toList)))) : pGe (.str s) (.str s2) Q := k
theorem p_eqf (h1 : flD x = true) (h2 : flD y = true) (k : Q (.bl (eqD x y))) : pEq x y Q := ⟨0, by decide, Cq.flat h1 h2, k⟩
theorem p_nef (h1 : flD x = true) (h2 : flD y = true) (k : Q (.bl (!eqD x y))) : pNe x y Q := ⟨0, by decide, Cq.flat h1 h2, k⟩
theorem eqD_II : eqD (.int i) (.int j) = decide (i = j) := by simp only [eqD, eq0]
theorem eqD_SS : eqD (.str s) (.str s2) = decide (s = s2) := by simp only [eqD, eq0]
theorem eqD_BB : eqD (.bl bb) (.bl b2) = decide (bb = b2) := by simp only [eqD, eq0]
theorem eqD_IS : eqD (.int i) (.str s) = false := by simp only [eqD, eq0]
theorem eqD_SI : eqD (.str s) (.int i) = false := by simp only [eqD, eq0]
theorem p_eq (k : Q (.bl (decide (i = j)))) : pEq (.int i) (.int j) Q := p_eqf rfl rfl (by rw [eqD_II]; exact k)
theorem p_eqS (k : Q (.bl (decide (s = s2)))) : pEq (.str s) (.str s2) Q := p_eqf rfl rfl (by rw [eqD_SS]; exact k)
theorem p_eqB (k : Q (.bl (decide (bb = b2)))) : pEq (.bl bb) (.bl b2) Q := p_eqf rfl rfl (by rw [eqD_BB]; exact k)
theorem p_ne (k : Q (.bl (!decide (i = j)))) : pNe (.int i) (.int j) Q := p_nef rfl rfl (by rw [eqD_II]; exact k)
theorem p_neS (k : Q (.bl (!decide (s = s2)))) : pNe (.str s) (.str s2) Q := p_nef rfl rfl (by rw [eqD_SS]; exact k)
theorem p_neB (k : Q (.bl (!decide (bb = b2)))) : pNe (.bl bb) (.bl b2) Q := p_nef rfl rfl (by rw [eqD_BB]; exact k)
theorem p_eqIS (k : Q (.bl false)) : pEq (.int i) (.str s) Q := p_eqf rfl rfl (by rw [eqD_IS]; exact k)
theorem p_eqSI (k : Q (.bl false)) : pEq (.str s) (.int i) Q := p_eqf rfl rfl (by rw [eqD_SI]; exact k)
theorem p_is (k : Q (.bl (isNon x))) : pIs x .non Q := by cases x <;> exact k
theorem p_isNot (k : Q (.bl (!isNon x))) : pIsNot x .non Q := by cases x <;> exact k
theorem p_isB (k : Q (.bl (decide (bb = b2)))) : pIs (.bl bb) (.bl b2) Q := k
theorem p_ixL (h : atI l i = some d) (k : Q d) : pIx (.lst l) (.int i) Q := ⟨d, h, k⟩
theorem p_ixT (h : atI l i = some d) (k : Q d) : pIx (.tup l) (.int i) Q := ⟨d, h, k⟩
theorem p_lenL (k : Q (.int l.length)) : pLen [.lst l] Q := k
theorem p_lenT (k : Q (.int l.length)) : pLen [.tup l] Q := k
theorem p_lenS (h : s.length ≤ 100000) (k : Q (.int s.length)) : pLen [.str s] Q := ⟨h, k⟩
theorem p_int (k : Q (.int i)) : pInt [.int i] Q := k
theorem p_intB (k : Q (.int (if bb then 1 else 0))) : pInt [.bl bb] Q := k
theorem p_max (k : Q (.int (if j > i then j else i))) : pMax [.int i, .int j] Q := k
theorem p_min (k : Q (.int (if j < i then j else i))) : pMin [.int i, .int j] Q := k
theorem p_abs (k : Q (.int (if i < 0 then -i else i))) : pAbs [.int i] Q := k
theorem p_listL (k : Q (.lst l)) : pList [.lst l] Q := k
theorem p_listT (k : Q (.lst l)) : pList [.tup l] Q := k
theorem p_tupleL (k : Q (.tup l)) : pTuple [.lst l] Q := k
theorem p_tupleT (k : Q (.tup l)) : pTuple [.tup l] Q := k
theorem p_strS (k : Q (.str s)) : pStr [.str s] Q := k
theorem p_isi {m : String} (h : okTy x = true) (hn : m = "int" ∨ m = "bool" ∨ m = "str" ∨ m = "tuple" ∨ m = "list") (k : Q (.bl (isTy m x))) : pIsi [x, .ty m] Q := ⟨h, hn, k⟩
theorem p_isC (k : a ρ fun d => isC1 s d Q) : pIsC s a ρ Q := k
theorem p_isCi {X : Str} {KS : List Str} {L : List Da} (k : Q (.bl (SUB X s))) : isC1 s (.ins X KS L) Q := k
-- calls
theorem p_cal (k : t ρ fun ds => ps ds Q fun _ => False) : pCal ps t ρ Q := k
theorem p_calS (k : t ρ fun ds => ps ds Q fun x => Wp x ρ) : pCalS Wp ps t ρ Q := k
theorem p_mt {m : Str} (k : a ρ fun d => ∃ ks l, d = .ins s ks l ∧ ks.contains m = false ∧ t ρ fun ds => ps (d :: ds) Q fun _ => False) : pMt s m ps a t ρ Q := k
theorem p_mtX {m : Str} (k : a ρ fun d => ∃ ks l, d = .ins s ks l ∧ ks.contains m = false ∧ t ρ fun ds => ps (d :: ds) Q fun x => Wp x ρ) : pMtX Wp s m ps a t ρ Q := k
theorem p_pr (k : a ρ fun d => ∃ ks l, d = .ins s ks l ∧ ps [d] Q fun _ => False) : pPr s ps a ρ Q := k
theorem p_insM {X : Str} {KS : List Str} {L : List Da} {m : Str} {P : Prop} (h : KS.contains m = false) (k : P) : ∃ ks l, Da.ins X KS L = .ins X ks l ∧ ks.contains m = false ∧ P := ⟨KS, L, rfl, h, k⟩
theorem p_insP {X : Str} {KS : List Str} {L : List Da} {P : Prop} (k : P) : ∃ ks l, Da.ins X KS L = .ins X ks l ∧ P := ⟨KS, L, rfl, k⟩
theorem p_mk {gs : List Str} {pi : PSi} (k : t ρ fun ds => pi ds (fun l => Q (.ins s gs l)) fun _ => False) : pMk s gs pi t ρ Q := k
theorem p_mkX {gs : List Str} {pi : PSi} (k : t ρ fun ds => pi ds (fun l => Q (.ins s gs l)) fun y => Wp y ρ) : pMkX Wp s gs pi t ρ Q := k
theorem p_mkK {gs : List Str} {pi : PSi} {n nk : Nat} {ms : List Cst} {sel : List (Bool × Nat)} (k : t ρ fun ds => u ρ fun dz => ds.length = n ∧ dz.length = nk ∧ pi (selD sel ms ds dz) (fun l => Q (.ins s gs l)) fun y => Wp y ρ) : pMkK Wp s gs n nk ms sel pi t u ρ Q := k
-- slices
theorem p_sl {lo hi : POp} (k : a ρ fun d => lo ρ fun l => hi ρ fun h => slD d l h Q) : pSl a lo hi ρ Q := k
theorem p_slL {o1 o2 : Option Int} (k : Q (.lst (cutD l o1 o2))) : slD (.lst l) o1 o2 Q := k
theorem p_slT {o1 o2 : Option Int} (k : Q (.tup (cutD l o1 o2))) : slD (.tup l) o1 o2 Q := k
theorem p_noPart {QO : Option Int → Prop} (k : QO none) : pNoPart ρ QO := k
theorem p_part {QO : Option Int → Prop} (k : a ρ fun d => ∃ i, d = .int i ∧ QO (some i)) : pPart a ρ QO := k
theorem p_parti {P : Int → Prop} (k : P i) : ∃ j, Da.int i = .int j ∧ P j := ⟨i, rfl, k⟩
-- statements
theorem p_next (k : D.nx ρ) : pNext D ρ := k
theorem p_seq (k : p { D with nx := q D } ρ) : pSeq p q D ρ := k
theorem p_asg (k : a ρ fun d => D.nx (ρ.set n (some (.d d)))) : pAsg a (pgName n) D ρ := k
theorem p_asgG (k : a ρ fun d => g d ρ D.nx) : pAsg a g D ρ := k
theorem p_drop (k : a ρ fun _ => D.nx ρ) : pDrop a D ρ := k
theorem p_ret (k : a ρ D.rt) : pRet a D ρ := k
theorem p_retN (k : D.rt .non) : pRetN D ρ := k
theorem p_ifS (k : c ρ fun b => if b = true then p D ρ else q D ρ) : pIfS c p q D ρ := k
theorem p_brk (k : D.bk ρ) : pBreak D ρ := k
theorem p_cont (k : D.ct ρ) : pCont D ρ := k
theorem p_rse (k : Wp s ρ) : pRaise Wp s D ρ := k
theorem p_rseA (k : a ρ fun _ => Wp s ρ) : pRaiseA Wp s a D ρ := k
theorem p_asgO (k : t ρ fun l => D.nx (ρ.set n (some (.own l)))) : pAsgO n t D ρ := k
theorem p_app (h : ρ[n]? = some (some (.own l))) (hl : l.length < 100000) (k : a ρ fun d => D.nx (ρ.set n (some (.own (l ++ [d]))))) : pApp n a D ρ := ⟨l, h, hl, k⟩
theorem p_setI (h : ρ[n]? = some (some (.own l))) (k : b ρ fun d => a ρ fun e => ∃ k j, e = .int k ∧ ixN l.length k = some j ∧ D.nx (ρ.set n (some (.own (l.set j d))))) : pSetI n a b D ρ := ⟨l, h, k⟩
theorem p_frz (h : ρ[n]? = some (some (.own l))) (k : p D (ρ.set n (some (.d (.lst l))))) : pFrz n p D ρ := ⟨l, h, k⟩
theorem p_bor (h : ρ[n]? = some (some (.own l))) (k : a (ρ.set n (some (.d (.lst l)))) fun d => flD d = true ∧ Q d) : pBor n a ρ Q := ⟨l, h, k⟩
theorem p_borT (h : ρ[n]? = some (some (.own l))) (k : c (ρ.set n (some (.d (.lst l)))) QB) : pBorT n c ρ QB := ⟨l, h, k⟩
theorem p_fl {P : Prop} (h : flD d = true) (k : P) : flD d = true ∧ P := ⟨h, k⟩
theorem p_setF {X : Str} {gs ks : List Str} (h : ρ[n]? = some (some (.obj X gs ks l))) (hc : gs.contains f = true) (hk : ks.length < 1000) (k : a ρ fun d => D.nx (ρ.set n (some (.obj X gs (putK f ks) (putL f d ks l))))) : pSetF n f a D ρ := ⟨X, gs, ks, l, h, hc, hk, k⟩
theorem p_gName {QE : PEnv → Prop} (k : QE (ρ.set n (some (.d d)))) : pgName n d ρ QE := k
theorem p_gTup {QE : PEnv → Prop} {tg : PTgs} (h : l.length = k) (z : tg l ρ QE) : pgTup k tg (.tup l) ρ QE := ⟨l, rfl, h, z⟩
theorem p_gNil {QE : PEnv → Prop} (k : QE ρ) : pgNil [] ρ QE := ⟨rfl, k⟩
theorem p_gCons {QE : PEnv → Prop} {tg : PTgs} (k : g d ρ fun ρ' => tg l ρ' QE) : pgCons g tg (d :: l) ρ QE := ⟨d, l, rfl, k⟩
theorem p_try {x : Str} {ys : List Str} {pb : WP → PSt} (k : pb (fun y ρ' => y ∈ ys ∧ if SUB y x = true then p D ρ' else Wp y ρ') D ρ) : pTry x ys pb p Wp D ρ := k
-- walks
theorem p_for {pi : PIt} (k : pi ρ fun l => pLoop l g p D ρ) : pFor pi g p D ρ := k
theorem p_isq (k : a ρ fun d => ∃ l, (d = .lst l ∨ d = .tup l) ∧ QA l) : piSq a ρ QA := k
theorem p_isqL {P : List Da → Prop} (k : P l) : ∃ m, (Da.lst l = .lst m ∨ Da.lst l = .tup m) ∧ P m := ⟨l, .inl rfl, k⟩
theorem p_isqT {P : List Da → Prop} (k : P l) : ∃ m, (Da.tup l = .lst m ∨ Da.tup l = .tup m) ∧ P m := ⟨l, .inr rfl, k⟩
theorem p_irng1 (k : t ρ fun ds => ∃ j : Int, ds = [.int j] ∧ -1000000 ≤ j ∧ j ≤ 1000000 ∧ QA (rngD 0 j.toNat)) : piRng1 t ρ QA := k
theorem p_irng2 (k : t ρ fun ds => ∃ i j : Int, ds = [.int i, .int j] ∧ (-1000000 ≤ i ∧ i ≤ 1000000 ∧ -1000000 ≤ j ∧ j ≤ 1000000) ∧ QA (rngD i (j - i).toNat)) : piRng2 t ρ QA := k
theorem p_rng1 {P : Int → Prop} (h : -1000000 ≤ i ∧ i ≤ 1000000) (k : P i) : ∃ j : Int, [Da.int i] = [.int j] ∧ -1000000 ≤ j ∧ j ≤ 1000000 ∧ P j := ⟨i, rfl, h.1, h.2, k⟩
theorem p_izip (k : t ρ fun ds => ∃ a b, (ds = [.lst a, .lst b] ∨ ds = [.tup a, .tup b]) ∧ QA (zipD a b)) : piZip t ρ QA := k
theorem p_zipL {P : List Da → List Da → Prop} (k : P l l2) : ∃ a b, ([Da.lst l, Da.lst l2] = [.lst a, .lst b] ∨ [Da.lst l, Da.lst l2] = [.tup a, .tup b]) ∧ P a b := ⟨l, l2, .inl rfl, k⟩
theorem p_zipT {P : List Da → List Da → Prop} (k : P l l2) : ∃ a b, ([Da.tup l, Da.tup l2] = [.lst a, .lst b] ∨ [Da.tup l, Da.tup l2] = [.tup a, .tup b]) ∧ P a b := ⟨l, l2, .inr rfl, k⟩
theorem p_ienum (k : t ρ fun ds => ∃ l, (ds = [.lst l] ∨ ds = [.tup l]) ∧ QA (enumD l)) : piEnum t ρ QA := k
theorem p_enumL {P : List Da → Prop} (k : P l) : ∃ m, ([Da.lst l] = [.lst m] ∨ [Da.lst l] = [.tup m]) ∧ P m := ⟨l, .inl rfl, k⟩
theorem p_enumT {P : List Da → Prop} (k : P l) : ∃ m, ([Da.tup l] = [.lst m] ∨ [Da.tup l] = [.tup m]) ∧ P m := ⟨l, .inr rfl, k⟩
theorem p_loop (I : Nat → PEnv → Prop) (h0 : I 0 ρ) (hs : ∀ i x ρ', l[i]? = some x → I i ρ' → g x ρ' fun ρ2 => p { D with nx := I (i + 1), ct := I (i + 1), bk := D.nx } ρ2) (hd : ∀ ρ', I l.length ρ' → D.nx ρ') : pLoop l g p D ρ := ⟨I, h0, hs, hd⟩
theorem p_loopR {lo : Int} {m : Nat} (I : Nat → PEnv → Prop) (h0 : I 0 ρ) (hs : ∀ (i : Nat) ρ', i < m → I i ρ' → g (.int (lo + i)) ρ' fun ρ2 => p { D with nx := I (i + 1), ct := I (i + 1), bk := D.nx } ρ2) (hd : ∀ ρ', I m ρ' → D.nx ρ') : pLoop (rngD lo m) g p D ρ :=
  ⟨I, h0, fun i x ρ' hx ii => by obtain ⟨h, rfl⟩ := rngD_get hx; exact hs i ρ' h ii, fun ρ' ii => by rw [rngD_len] at ii; exact hd ρ' ii⟩
theorem p_lc {pi : PIt} {us : List Nat} (k : pi ρ fun l => pComp l g c e us ρ fun r => Q (.lst r)) : pLc pi g c e us ρ Q := k
theorem p_lcF {pi : PIt} {us : List Nat} (k : pi ρ fun l => pComp l g c e us ρ QA) : pLcF pi g c e us ρ QA := k
theorem p_map {us : List Nat} (hn : l.length ≤ 90000) (F : Da → Da) (hs : ∀ (i : Nat) (x : Da) (R : Da → Prop), l[i]? = some x → R (F x) → g x (wipeP ρ us) fun ρ2 => e ρ2 R) (hd : QA (l.map F)) : pComp l g pYes e us ρ QA := by
  refine ⟨hn, fun i acc => acc = (l.take i).map F, rfl, fun i x acc hx ha => ?_, fun acc ha => by rw [ha, List.take_length]; exact hd⟩
  subst ha
  have := hs i x (fun y => (l.take i).map F ++ [y] = (l.take (i + 1)).map F) hx (by
    rw [List.take_add_one, hx, List.map_append]; rfl)
  refine cast (congrArg (g x (wipeP ρ us)) ?_) this
  funext ρ2
  dsimp only [pYes]
  rw [if_pos rfl]
theorem p_newL (k : t ρ fun ds => ds.length ≤ 100000 ∧ QA ds) : pNewL t ρ QA := k
theorem p_listF (k : t ρ fun ds => listF1 ds QA) : pListF t ρ QA := k
theorem p_listFL (k : QA l) : listF1 [.lst l] QA := k
theorem p_listFT (k : QA l) : listF1 [.tup l] QA := k
theorem p_addF (k : a ρ fun x => b ρ fun y => addF1 x y QA) : pAddF a b ρ QA := k
theorem p_slF {lo hi : POp} (k : a ρ fun d => lo ρ fun l => hi ρ fun h => slF1 d l h QA) : pSlF a lo hi ρ QA := k
theorem p_slFL {o1 o2 : Option Int} (k : QA (cutD l o1 o2)) : slF1 (.lst l) o1 o2 QA := k
end

local macro_rules | `(tactic| walk_at "pf") => `(tactic| (simp only [List.length_cons, List.length_nil]; with_unfolding_all decide))
local macro_rules | `(tactic| walk_at "po") => `(tactic| (with_reducible first
  | refine p_add ?_ | refine p_sub ?_ | refine p_lt ?_ | refine p_le ?_ | refine p_gt ?_ | refine p_ge ?_ | refine p_eq ?_ | refine p_ne ?_ | refine p_eqS ?_ | refine p_neS ?_ | refine p_eqB ?_ | refine p_neB ?_ | refine p_neg ?_ | refine p_int ?_ | refine p_intB ?_ | refine p_max ?_ | refine p_min ?_ | refine p_abs ?_
  | refine p_is ?_ | refine p_isNot ?_ | refine p_isB ?_ | refine p_eqIS ?_ | refine p_eqSI ?_ | refine p_ltS ?_ | refine p_leS ?_ | refine p_gtS ?_ | refine p_geS ?_ | refine p_lenL ?_ | refine p_lenT ?_ | refine p_listL ?_ | refine p_listT ?_ | refine p_tupleL ?_ | refine p_tupleT ?_ | refine p_strS ?_
  | refine p_slL ?_ | refine p_slT ?_ | refine p_parti ?_ | refine p_isqL ?_ | refine p_isqT ?_ | refine p_zipL ?_ | refine p_zipT ?_ | refine p_enumL ?_ | refine p_enumT ?_ | refine p_bl ?_ | refine p_trb ?_ | refine p_tri ?_ | refine p_trl ?_ | refine p_trt ?_ | refine p_trn ?_ | refine p_isCi ?_ | refine p_insP ?_ | refine p_listFL ?_ | refine p_listFT ?_ | refine p_slFL ?_))
local macro_rules | `(tactic| walk_at "pe") => `(tactic| (with_reducible first
  | ((show pVar _ _ _); refine p_var (by with_unfolding_all rfl) ?_) | refine p_c ?_ | refine p_op ?_ | refine p_cons ?_ | refine p_nil ?_ | refine p_fldt ?_ | refine p_cal ?_ | refine p_cb ?_ | refine p_test ?_ | refine p_un ?_ | refine p_tru ?_ | refine p_and ?_ | refine p_or ?_ | refine p_not ?_ | refine p_andV ?_ | refine p_orV ?_ | refine p_notV ?_ | refine p_if ?_ | refine p_lst ?_ | refine p_tup ?_ | refine p_chain ?_ | refine p_calS ?_ | refine p_mt ?_ | refine p_mtX ?_ | refine p_pr ?_ | refine p_mk ?_ | refine p_mkX ?_ | refine p_mkK ?_ | refine p_sl ?_ | refine p_part ?_ | refine p_noPart ?_ | refine p_isC ?_ | refine p_yes ?_ | refine p_lc ?_ | refine p_lcF ?_ | refine p_isq ?_ | refine p_irng1 ?_ | refine p_irng2 ?_ | refine p_izip ?_ | refine p_ienum ?_ | refine p_newL ?_ | refine p_listF ?_ | refine p_addF ?_ | refine p_slF ?_))
local macro_rules | `(tactic| walk_at "ps") => `(tactic| (with_reducible first
  | refine p_seq ?_ | refine p_asg ?_ | refine p_ifS ?_ | refine p_ret ?_ | refine p_drop ?_ | refine p_next ?_ | refine p_brk ?_ | refine p_cont ?_ | refine p_retN ?_ | refine z_iteT ?_ | refine z_iteF ?_ | refine p_for ?_ | refine p_asgO ?_ | refine p_asgG ?_ | refine p_rse ?_ | refine p_rseA ?_ | refine p_gName ?_ | refine p_gNil ?_ | refine p_gCons ?_ | refine p_try ?_
  | ((show pgTup _ _ _ _ _); refine p_gTup (by with_unfolding_all rfl) ?_)
  | ((show pApp _ _ _ _); refine p_app (by with_unfolding_all rfl) ?_ ?_; rotate_left)
  | ((show pSetI _ _ _ _ _); refine p_setI (by with_unfolding_all rfl) ?_)
  | ((show pFrz _ _ _ _); refine p_frz (by with_unfolding_all rfl) ?_)
  | ((show pBor _ _ _ _); refine p_bor (by with_unfolding_all rfl) ?_)
  | ((show pBorT _ _ _ _); refine p_borT (by with_unfolding_all rfl) ?_)
  | ((show pSetF _ _ _ _ _); refine p_setF (by with_unfolding_all rfl) (by with_unfolding_all rfl) (by with_unfolding_all exact of_decide_eq_true rfl) ?_)))
local macro_rules | `(tactic| walk_at "pp") => `(tactic| with_reducible first
  | ((show pMul _ _ _); refine p_mul (by walk_at "mulok") ?_)
  | ((show pDiv _ _ _); refine p_div (by exact div1 (by omega)) ?_)
  | ((show pMod _ _ _); refine p_mod (by omega) ?_)
  | ((show pPow _ _ _); refine p_pow (by with_unfolding_all exact ⟨by decide, by decide, by decide⟩) ?_; (simp only [Int.reduceToNat, Int.reducePow]))
  | ((show pIx (Da.lst _) _ _); refine p_ixL (by first | with_unfolding_all rfl | assumption) ?_)
  | ((show pIx (Da.tup _) _ _); refine p_ixT (by first | with_unfolding_all rfl | assumption) ?_)
  | (refine p_fld (by with_unfolding_all rfl) ?_)
  | (refine p_insM (by with_unfolding_all rfl) ?_)
  | (refine p_nl (by walk_at "pf") ?_)
  | (refine p_isi (by with_unfolding_all rfl) (by with_unfolding_all decide) ?_)
  | (refine p_fl (by with_unfolding_all rfl) ?_))
local macro_rules | `(tactic| walk_at "p1") => `(tactic| first | walk_at "pe" | walk_at "po" | walk_at "ps" | walk_at "pp" | (dsimp only [List.set]))
local macro_rules | `(tactic| walk_at "pz") => `(tactic| repeat (walk_at "p1"))
local macro_rules | `(tactic| walk_at "pd") => `(tactic| ((with_reducible show ite _ _ _); first | refine z_iteT' (by decide +kernel) ?_ | refine z_iteF' (by decide +kernel) ?_))
local macro_rules | `(tactic| walk_at "px") => `(tactic| repeat (first | walk_at "p1" | walk_at "pd"))
local macro_rules | `(tactic| walk_at "pr") => `(tactic| ((with_reducible show ite _ _ _); first | refine z_iteT' (by with_unfolding_all rfl) ?_ | refine z_iteF' (by with_unfolding_all rfl) ?_))
local macro_rules | `(tactic| walk_at "py") => `(tactic| repeat (first | walk_at "p1" | walk_at "pr"))

def seqD (v : Da) (l : List Da) : Prop := v = .lst l ∨ v = .tup l
abbrev prD (l : List (Da × Da)) : List Da := l.map fun z => .tup [z.1, z.2]
theorem p_isqS {v : Da} {l : List Da} {P : List Da → Prop} (h : seqD v l) (k : P l) : ∃ m, (v = .lst m ∨ v = .tup m) ∧ P m := ⟨l, h, k⟩
def EqAsk (X : Str) (KS : List Str) (ok : List Da → List Da → Prop) (l : List Da) (e : Da) : Prop := l.length = KS.length ∧ ((∃ m, e = .ins X KS m ∧ m.length = KS.length ∧ ok l m) ∨ (∃ y ks m, e = .ins y ks m ∧ SUB y X = false) ∨ okTy e = true)
def psEqOf (X : Str) (KS : List Str) (ok : List Da → List Da → Prop) : PSp := fun ds Q _ => ∃ l e, ds = [.ins X KS l, e] ∧ EqAsk X KS ok l e ∧ Q (.bl (eqD (.ins X KS l) e))
theorem eqD_same {X : Str} {KS : List Str} {l m : List Da} (h : X ≠ "Record") : eqD (.ins X KS l) (.ins X KS m) = eqDs l m := by
  simp only [eqD, decide_true, Bool.true_and, if_neg h]
theorem CqX.flat {tab : ETab} {n : Nat} {x y : Da} (h1 : flD x = true) (h2 : flD y = true) : CqX tab n x y := by
  cases n with
  | zero => exact ⟨h1, h2⟩
  | succ n => exact .inl ⟨h1, h2⟩
theorem CqX.tup {tab : ETab} {n : Nat} {a b : List Da} (h : ∀ (i : Nat) (u v : Da), a[i]? = some u → b[i]? = some v → CqX tab n u v) : CqX tab (n + 1) (.tup a) (.tup b) := .inr (.inl ⟨a, b, rfl, rfl, h⟩)
theorem CqX.lst {tab : ETab} {n : Nat} {a b : List Da} (h : ∀ (i : Nat) (u v : Da), a[i]? = some u → b[i]? = some v → CqX tab n u v) : CqX tab (n + 1) (.lst a) (.lst b) := .inr (.inr (.inl ⟨a, b, rfl, rfl, h⟩))
theorem CqX.ins {tab : ETab} {n : Nat} {X : Str} {KS : List Str} {ok : List Da → List Da → Prop} {l : List Da} {e : Da} (hm : (X, psEqOf X KS ok) ∈ tab) (h : EqAsk X KS ok l e) (hr : eqD (.ins X KS l) (.ins X KS l) = true) (ht : ∀ y ks m, e = .ins y ks m → y = X ∨ ∃ ps, (y, ps) ∈ tab) : CqX tab (n + 1) (.ins X KS l) e := by
  refine .inr (.inr (.inr ⟨X, KS, l, rfl, ⟨_, hm, l, e, rfl, h, rfl⟩, hr, ?_⟩))
  rcases h.2 with ⟨m, rfl, _, _⟩ | ⟨y, ks, m, rfl, hs⟩ | ho
  · exact .inl ⟨X, KS, m, rfl, .inl rfl⟩
  · exact .inl ⟨y, ks, m, rfl, (ht y ks m rfl).imp id fun z => ⟨z, hs⟩⟩
  · exact .inr ho

theorem p_filt {α : Type} {l : List α} {f g : α → Da} {pg : PTg} {c : PTe} {e : PEx} {us : List Nat} {ρ : PEnv} {QA : List Da → Prop} (P : α → Bool) (hn : l.length ≤ 90000) (hs : ∀ (i : Nat) (a : α) (k1 : Da → Prop) (k2 : Prop), l[i]? = some a → (P a = true → k1 (g a)) → (P a = false → k2) → pg (f a) (wipeP ρ us) fun ρ2 => c ρ2 fun b => if b = true then e ρ2 k1 else k2) (hd : QA ((l.filter P).map g)) : pComp (l.map f) pg c e us ρ QA := by
  refine ⟨by rw [List.length_map]; exact hn, fun i acc => acc = ((l.take i).filter P).map g, rfl, fun i x acc hx ha => ?_, fun acc ha => by rw [ha, List.length_map, List.take_length]; exact hd⟩
  rw [List.getElem?_map] at hx
  cases e' : l[i]? with
  | none => rw [e'] at hx; cases hx
  | some a =>
    rw [e'] at hx
    cases hx
    subst ha
    have tk : l.take (i + 1) = l.take i ++ [a] := by rw [List.take_add_one, e']; rfl
    refine hs i a _ _ e' (fun h => ?_) (fun h => ?_)
    · show _ = _
      rw [tk, List.filter_append, List.map_append, List.filter_cons_of_pos h]; rfl
    · show _ = _
      rw [tk, List.filter_append, List.map_append, List.filter_cons_of_neg (by rw [h]; exact Bool.false_ne_true)]; simp
theorem p_istr {p : PEx} {ρ : PEnv} {Q : List Da → Prop} (k : p ρ fun d => ∃ x, d = .str x ∧ Q (strD x)) : piStr p ρ Q := k
theorem p_kst {P : Str → Prop} {x : Str} (k : P x) : ∃ z, Da.str x = .str z ∧ P z := ⟨x, rfl, k⟩
theorem p_ord {c : Nat} {Q : Da → Prop} (k : Q (.int (c : Nat))) : pOrd [.str ⟨#[c]⟩] Q := ⟨rfl, k⟩
theorem p_cstT {xs : List V} {ρ : PEnv} {Q : Da → Prop} (k : Q (.tup (xs.map vD))) : pCstT xs ρ Q := k
section
variable {X : Cx} {c : CEnv} {k : Nat} {tab : ETab}
end
section
variable {N : Cn}
end
def pKout (l : List (Str × DV)) (a : PEx) : PEx := fun ρ Q => a ρ fun x => ∃ z, x = .str z ∧ Q (.bl (!(l.lookup z).isSome))
def pKin (l : List (Str × DV)) (a : PEx) : PEx := fun ρ Q => a ρ fun x => ∃ z, x = .str z ∧ Q (.bl (l.lookup z).isSome)
theorem sim_kout {N : Cn} {l : List (Str × DV)} {a : TE} {p : PEx} (h : SimE N a p) : SimE N (tKout l a) (pKout l p) := by
  intro w H0 B aw ow H σ ρ Q Q' r q k
  refine h w H0 B aw ow H σ ρ _ _ r q fun x dx H1 r1 s1 h1 ⟨z, e, q1⟩ => ?_
  subst e
  cases h1
  exact ⟨z, rfl, k _ _ H1 r1 s1 (.bl _) q1⟩
theorem p_kout {l : List (Str × DV)} {a : PEx} {ρ : PEnv} {Q : Da → Prop} (k : a ρ fun x => ∃ z, x = .str z ∧ Q (.bl (!(l.lookup z).isSome))) : pKout l a ρ Q := k
theorem p_kin {l : List (Str × DV)} {a : PEx} {ρ : PEnv} {Q : Da → Prop} (k : a ρ fun x => ∃ z, x = .str z ∧ Q (.bl (l.lookup z).isSome)) : pKin l a ρ Q := k

def itK (k : Bool) (h : Heap) (i a : Addr) (n : Nat) : Prop := if k then h.IsTupleIter i a n else h.IsListIter i a n
def objK (k : Bool) (a : Addr) : Obj := if k then { cls := .type "tuple_iterator", data := .fields #[.ref a, .int 0 0] } else { cls := .type "list_iterator", data := .fields #[.ref a, .int 0 0] }
theorem itK.obj {k : Bool} {h : Heap} {i a : Addr} {n : Nat} (e : itK k h i a n) : ∃ o, h.get? i = some o ∧ ∀ v, o.data ≠ .cell v := by
  cases k
  all_goals
    obtain ⟨o, ho, _, hd⟩ := e
    exact ⟨o, ho, fun v q => by rw [hd] at q; cases q⟩
theorem itK.at {k : Bool} {h h' : Heap} {i a : Addr} {n : Nat} (e : itK k h i a n) (q : ∀ o, h.get? i = some o → h'.get? i = some o) : itK k h' i a n := by
  cases k
  all_goals
    obtain ⟨o, ho, hc, hd⟩ := e
    exact ⟨o, q o ho, hc, hd⟩
theorem itK.of {k : Bool} {h : Heap} {i a : Addr} (e : h.get? i = some (objK k a)) : itK k h i a 0 := by
  cases k
  · exact ⟨_, e, rfl, rfl⟩
  · exact ⟨_, e, rfl, rfl⟩
section
variable {X : Cx} {e e2 e3 : Expr} {ta : TA} {p pos tpos : Pos} {elts : List Expr} {kk : Nat}
end

abbrev iD (xs : List Int) : List Da := xs.map Da.int
theorem takeS {α : Type} {l : List α} {i : Nat} {a : α} (h : l[i]? = some a) : l.take (i + 1) = l.take i ++ [a] := by rw [List.take_add_one, h]; rfl
theorem mapD_get {α : Type} {l : List α} {f : α → Da} {i : Nat} {x : Da} (h : (l.map f)[i]? = some x) : ∃ a, l[i]? = some a ∧ x = f a := by
  rw [List.getElem?_map] at h
  cases e : l[i]? with
  | none => rw [e] at h; cases h
  | some a => rw [e] at h; cases h; exact ⟨a, rfl, rfl⟩
def pNever : PSt := fun _ _ => False
section
variable {N : Cn}
theorem sim_never : SimS N tNever pNever := fun w H0 B aw ow H σ ρ D D' a r z => z.elim
end
theorem seqL {l : List Da} : seqD (.lst l) l := .inl rfl
theorem seqT {l : List Da} : seqD (.tup l) l := .inr rfl
def piZip2 (p : PAr) : PIt := fun ρ Q => p ρ fun ds => ∃ x y a b, ds = [x, y] ∧ seqD x a ∧ seqD y b ∧ Q (zipD a b)
def zip3D (a b c : List Da) : List Da := (a.zip (b.zip c)).map fun z => .tup [z.1, z.2.1, z.2.2]
def piZip3 (p : PAr) : PIt := fun ρ Q => p ρ fun ds => ∃ x y z a b c, ds = [x, y, z] ∧ seqD x a ∧ seqD y b ∧ seqD z c ∧ Q (zip3D a b c)
section
variable {N : Cn}
end
theorem p_izip2 {t : PAr} {ρ : PEnv} {QA : List Da → Prop} (k : t ρ fun ds => ∃ x y a b, ds = [x, y] ∧ seqD x a ∧ seqD y b ∧ QA (zipD a b)) : piZip2 t ρ QA := k
theorem p_zip2 {x y : Da} {a b : List Da} {P : List Da → List Da → Prop} (h1 : seqD x a) (h2 : seqD y b) (k : P a b) : ∃ x' y' a b, [x, y] = [x', y'] ∧ seqD x' a ∧ seqD y' b ∧ P a b := ⟨x, y, a, b, rfl, h1, h2, k⟩
theorem p_izip3 {t : PAr} {ρ : PEnv} {QA : List Da → Prop} (k : t ρ fun ds => ∃ x y z a b c, ds = [x, y, z] ∧ seqD x a ∧ seqD y b ∧ seqD z c ∧ QA (zip3D a b c)) : piZip3 t ρ QA := k
theorem p_zip3 {x y z : Da} {a b c : List Da} {P : List Da → List Da → List Da → Prop} (h1 : seqD x a) (h2 : seqD y b) (h3 : seqD z c) (k : P a b c) : ∃ x' y' z' a b c, [x, y, z] = [x', y', z'] ∧ seqD x' a ∧ seqD y' b ∧ seqD z' c ∧ P a b c := ⟨x, y, z, a, b, c, rfl, h1, h2, h3, k⟩

def FlF (l : List (Da × Da)) : Prop := ∀ z ∈ l, flD z.1 = true ∧ flD z.2 = true
theorem prD_get {l : List (Da × Da)} {i : Nat} {x : Da} (h : (prD l)[i]? = some x) : ∃ z, l[i]? = some z ∧ z ∈ l ∧ x = .tup [z.1, z.2] := by
  rw [List.getElem?_map] at h
  cases e : l[i]? with
  | none => rw [e] at h; cases h
  | some z => rw [e] at h; cases h; exact ⟨z, rfl, List.mem_of_getElem? e, rfl⟩
theorem eqF_true {a b : List Da} (hl : a.length = b.length) (h : ∀ (i : Nat) (x y : Da), a[i]? = some x → b[i]? = some y → eqF1 x y = true) : eqF (.tup a) (.tup b) = true := by
  unfold eqF
  rw [Bool.and_eq_true, beq_iff_eq]
  refine ⟨List.all_eq_true.mpr fun z hz => ?_, hl⟩
  obtain ⟨i, hi⟩ := List.mem_iff_getElem?.mp hz
  rw [List.getElem?_zipWith] at hi
  cases e : a[i]? with
  | none => rw [e] at hi; cases hi
  | some x => cases e2 : b[i]? with
    | none => rw [e, e2] at hi; cases hi
    | some y => rw [e, e2] at hi; cases hi; exact h i x y e e2
-- same_value(a, b): slots 0:a 1:b
-- same_fields(a, b): slots 0:a 1:b 2:name 3:worth 4:other 5:second
abbrev RK : List Str := ["name", "vector", "fields", "words"]
abbrev recD (n : Da) (v f w : List Da) : Da := .ins "Record" RK [n, .tup v, .tup f, .tup w]
-- Record.__init__(self, name, vector, fields, words): slots 0:self 1:name 2:vector 3:fields 4:words 5:field 6:worth 7:word 8:count
def okRec (l m : List Da) : Prop := ∃ n v lf lw n2 v2 lf2 lw2, l = [n, .tup v, .tup (prD lf), .tup (prD lw)] ∧ m = [n2, .tup v2, .tup (prD lf2), .tup (prD lw2)] ∧ flD n = true ∧ flD n2 = true ∧ v.all flD = true ∧ v2.all flD = true ∧ FlF lf ∧ FlF lf2 ∧ FlF lw ∧ FlF lw2
def ps_Record_eq : PSp := psEqOf "Record" RK okRec
-- Record.__eq__(self, other): slots 0:self 1:other
local macro_rules | `(tactic| walk_at "pu") => `(tactic| (with_reducible first | refine p_istr ?_ | refine p_cstT ?_ | refine p_kout ?_ | refine p_kin ?_ | refine p_kst ?_ | refine p_ord ?_ | (refine p_lenS (by omega) ?_)))
local macro_rules | `(tactic| walk_at "pv") => `(tactic| repeat (first | walk_at "p1" | walk_at "pu"))
local macro_rules | `(tactic| walk_at "pw") => `(tactic| repeat (first | walk_at "p1" | walk_at "pu" | walk_at "pd"))

def spF (x : Str) : List Int := (x.length : Int) :: x.cps.toList.map fun (c : Nat) => (c : Int)
def vpF : Da → List Int
  | .bl b => [2, if b = true then 1 else 0]
  | .str x => 1 :: spF x
  | .int i => [0, i]
  | _ => []
def vSmF : Da → Prop
  | .bl _ => True
  | .str x => x.length ≤ 100
  | .int _ => True
  | _ => False
def fpF (x : Str × Da) : List Int := spF x.1 ++ vpF x.2
def wpF (x : Str × Int) : List Int := spF x.1 ++ [x.2]
structure RecF where
  n : Str
  v : List Int
  f : List (Str × Da)
  w : List (Str × Int)
abbrev fF (f : List (Str × Da)) : List (Da × Da) := f.map fun x => (.str x.1, x.2)
abbrev wF (w : List (Str × Int)) : List (Da × Da) := w.map fun x => (.str x.1, .int x.2)
def RecF.da (r : RecF) : Da := recD (.str r.n) (iD r.v) (prD (fF r.f)) (prD (wF r.w))
def rowB (i : Int) (n : Str) (xs : List Int) (k : Nat) : List Int := [i] ++ spF n ++ [(xs.length : Int)] ++ xs ++ [(k : Int)]
def rowF (i : Int) (r : RecF) : List Int := rowB i r.n r.v r.f.length ++ r.f.flatMap fpF ++ [(r.w.length : Int)] ++ r.w.flatMap wpF
structure RecF.Sm (r : RecF) : Prop where
  hn : r.n.length ≤ 100
  hx : r.v.length ≤ 100
  hf : r.f.length ≤ 100
  fs : ∀ x ∈ r.f, x.1.length ≤ 100 ∧ vSmF x.2
  hw : r.w.length ≤ 100
  wd : ∀ x ∈ r.w, x.1.length ≤ 100
-- string_part(text): slots 0:text 1:sign
-- value_part(worth): slots 0:worth
-- row_of(number, record): slots 0:number 1:record 2:row 3:name 4:worth 5:word 6:count
def foldF (f : Int) (xs : List Int) : Int := xs.foldl (fun s n => (s * f + n + 1) % 4294967291) 0
-- fold(row, factor): slots 0:row 1:factor 2:state 3:number
-- mark_of(key, number, record): slots 0:key 1:number 2:record 3:row
local macro_rules | `(tactic| walk_at "pu") => `(tactic| (with_reducible first | refine p_istr ?_ | refine p_cstT ?_ | refine p_kout ?_ | refine p_kin ?_ | refine p_kst ?_ | refine p_ord ?_ | (refine p_lenS (by omega) ?_)))
local macro_rules | `(tactic| walk_at "pv") => `(tactic| repeat (first | walk_at "p1" | walk_at "pu"))
local macro_rules | `(tactic| walk_at "pw") => `(tactic| repeat (first | walk_at "p1" | walk_at "pu" | walk_at "pd"))

def letC (c : Nat) : Bool := (decide (97 ≤ c) && decide (c ≤ 122)) || ((decide (65 ≤ c) && decide (c ≤ 90)) || c == 95)
def digC (c : Nat) : Bool := decide (48 ≤ c) && decide (c ≤ 57)
theorem lt_one {c d : Nat} : ([c] : List Nat) < [d] ↔ c < d := by
  rw [List.cons_lt_cons_iff]
  constructor
  · rintro (h | ⟨_, h⟩)
    · exact h
    · exact absurd h (List.lt_irrefl _)
  · exact fun h => .inl h
theorem dec_le {c d : Nat} {x y : Str} (hx : x.cps.toList = [c]) (hy : y.cps.toList = [d]) : (!decide (y.cps.toList < x.cps.toList)) = decide (c ≤ d) := by
  rw [hx, hy, Bool.eq_iff_iff]
  simp only [Bool.not_eq_true', decide_eq_false_iff_not, decide_eq_true_iff, lt_one]
  omega
abbrev one (c : Nat) : Str := ⟨#[c]⟩
theorem one_us (c : Nat) : decide (one c = "_") = (c == 95) := by
  rw [show ("_" : Str) = one 95 by decide +kernel, Bool.eq_iff_iff, decide_eq_true_iff, beq_iff_eq]
  constructor
  · intro h; injection h with h; simpa using h
  · intro h; rw [h]
def WRD : List Str := ["every", "has", "in", "and", "or", "not", "true", "false"]
def KND : List Str := ["integer", "text", "flag"]
def MSR : List Str := ["square", "dot", "bits"]
def fnZ (x : Str) : Bool := !decide (x = "") && (letC (x.cps.toList.headD 0) && (!decide (x ∈ WRD) && x.cps.toList.all fun c => letC c || digC c))
theorem atI_zero {α : Type} {a : α} {l : List α} : atI (a :: l) 0 = some a := by
  unfold atI ixN
  rw [if_pos (Int.le_refl 0), if_pos (by simp only [List.length_cons]; omega)]; rfl
theorem inD_str (x : Str) (ks : List Str) : inD (.str x) (ks.map Da.str) = decide (x ∈ ks) := by
  unfold inD
  rw [Bool.eq_iff_iff, List.any_eq_true, decide_eq_true_iff]
  constructor
  · rintro ⟨y, hy, e⟩
    obtain ⟨m, hm, rfl⟩ := List.mem_map.mp hy
    rw [eqD_SS] at e
    have : m = x := by simpa using e
    rw [← this]; exact hm
  · intro h
    exact ⟨.str x, List.mem_map.mpr ⟨x, h, rfl⟩, by rw [eqD_SS]; simp⟩
theorem p_inTS {x : Str} {ks : List Str} {Q : Da → Prop} (k : Q (.bl (decide (x ∈ ks)))) : pIn (.str x) (.tup (ks.map Da.str)) Q := ⟨rfl, flX, by rw [inD_str]; exact k⟩
theorem p_inLS {x : Str} {ks : List Str} {Q : Da → Prop} (k : Q (.bl (decide (x ∈ ks)))) : pIn (.str x) (.lst (ks.map Da.str)) Q := ⟨rfl, flX, by rw [inD_str]; exact k⟩
theorem p_notInTS {x : Str} {ks : List Str} {Q : Da → Prop} (k : Q (.bl (!decide (x ∈ ks)))) : pNotIn (.str x) (.tup (ks.map Da.str)) Q := ⟨rfl, flX, by rw [inD_str]; exact k⟩
def ps_is_letter : PSp := fun ds Q _ => ∃ c : Nat, ds = [.str (one c)] ∧ Q (.bl (letC c))
def sp_is_letter (K : PySem.W.Frag) (c : CEnv) : Sp := lift K c ps_is_letter
theorem b_is_letter {K : PySem.W.Frag} {c : CEnv} : SpSim K c (sp_is_letter K c) ps_is_letter := spSim_lift
abbrev N_is_letter : List Str := ["sign"]
-- is_letter(sign): slots 0:sign
def T_is_letter (K : PySem.W.Frag) : TS :=
    (tRet (tOrV (tChain uLe uLe (tC (.str "a")) (tVar 0) (tC (.str "z"))) (tOrV (tChain uLe uLe (tC (.str "A")) (tVar 0) (tC (.str "Z"))) (tOp (uEq K) (tVar 0) (tC (.str "_"))))))
def P_is_letter : PSt :=
    (pRet (pOrV (pChain pLe pLe (pC (.str "a")) (pVar 0) (pC (.str "z"))) (pOrV (pChain pLe pLe (pC (.str "A")) (pVar 0) (pC (.str "Z"))) (pOp pEq (pVar 0) (pC (.str "_"))))))
theorem S_is_letter {K : PySem.W.Frag} {c : CEnv} : SimS ⟨K, c, W0, fun _ _ => False⟩ (T_is_letter K) (P_is_letter) := by
  unfold T_is_letter P_is_letter
  exact (sim_ret (sim_orV (sim_chain sim_le sim_le (sim_str _) (sim_var 0) (sim_str _)) (sim_orV (sim_chain sim_le sim_le (sim_str _) (sim_var 0) (sim_str _)) (sim_op sim_eq (sim_var 0) (sim_str _)))))

theorem q_is_letter : ∀ ds Q E, ps_is_letter ds Q E → ds.length = 1 ∧ P_is_letter { nx := fun _ => Q .non, rt := Q } (startP 1 ds) := by
  rintro _ Q E ⟨c, rfl, q⟩
  refine ⟨rfl, ?_⟩
  show P_is_letter _ [some (.d (.str (one c)))]
  unfold P_is_letter
  unfold letC at q
  walk_at "pz"
  rw [dec_le (x := "a") (y := one c) (c := 97) (d := c) rfl rfl]
  have third : ∀ b, b = (decide (97 ≤ c) && decide (c ≤ 122)) → b = false → pOrV (pChain pLe pLe (pC (.str "A")) (pVar 0) (pC (.str "Z"))) (pOp pEq (pVar 0) (pC (.str "_"))) [some (.d (.str (one c)))] Q := fun b e z => by
    subst z
    rw [← e, Bool.false_or] at q
    walk_at "pz"
    rw [dec_le (x := "A") (y := one c) (c := 65) (d := c) rfl rfl]
    cases c3 : decide (65 ≤ c) with
    | false =>
      rw [c3] at q
      walk_at "px"
      rw [one_us]
      simpa using q
    | true =>
      rw [c3] at q
      walk_at "px"
      rw [dec_le (x := one c) (y := "Z") (c := c) (d := 90) rfl rfl]
      cases c4 : decide (c ≤ 90) with
      | false =>
        rw [c4] at q
        walk_at "px"
        rw [one_us]
        simpa using q
      | true =>
        rw [c4] at q
        walk_at "px"
        exact q
  cases c1 : decide (97 ≤ c) with
  | false =>
    rw [c1] at third
    walk_at "pd"
    walk_at "p1"
    walk_at "pd"
    exact third false rfl rfl
  | true =>
    rw [c1] at q third
    walk_at "px"
    rw [dec_le (x := one c) (y := "z") (c := c) (d := 122) rfl rfl]
    cases c2 : decide (c ≤ 122) with
    | false =>
      rw [c2] at third
      walk_at "pd"
      exact third false rfl rfl
    | true =>
      rw [c2] at q
      walk_at "px"
      exact q
theorem w_is_letter {K : PySem.W.Frag} {c : CEnv} : Wd (T_is_letter K) N_is_letter 1 (sp_is_letter K c) := wd_lift S_is_letter q_is_letter
def ps_is_digit : PSp := fun ds Q _ => ∃ c : Nat, ds = [.str (one c)] ∧ Q (.bl (digC c))
def sp_is_digit (K : PySem.W.Frag) (c : CEnv) : Sp := lift K c ps_is_digit
theorem b_is_digit {K : PySem.W.Frag} {c : CEnv} : SpSim K c (sp_is_digit K c) ps_is_digit := spSim_lift
abbrev N_is_digit : List Str := ["sign"]
-- is_digit(sign): slots 0:sign
def T_is_digit (K : PySem.W.Frag) : TS :=
    (tRet (tChain uLe uLe (tC (.str "0")) (tVar 0) (tC (.str "9"))))
def P_is_digit : PSt :=
    (pRet (pChain pLe pLe (pC (.str "0")) (pVar 0) (pC (.str "9"))))
theorem S_is_digit {K : PySem.W.Frag} {c : CEnv} : SimS ⟨K, c, W0, fun _ _ => False⟩ (T_is_digit K) (P_is_digit) := by
  unfold T_is_digit P_is_digit
  exact (sim_ret (sim_chain sim_le sim_le (sim_str _) (sim_var 0) (sim_str _)))

theorem q_is_digit : ∀ ds Q E, ps_is_digit ds Q E → ds.length = 1 ∧ P_is_digit { nx := fun _ => Q .non, rt := Q } (startP 1 ds) := by
  rintro _ Q E ⟨c, rfl, q⟩
  refine ⟨rfl, ?_⟩
  show P_is_digit _ [some (.d (.str (one c)))]
  unfold P_is_digit
  unfold digC at q
  walk_at "pz"
  rw [dec_le (x := "0") (y := one c) (c := 48) (d := c) rfl rfl]
  cases c1 : decide (48 ≤ c) with
  | false =>
    rw [c1] at q
    walk_at "px"
    exact q
  | true =>
    rw [c1] at q
    walk_at "px"
    rw [dec_le (x := one c) (y := "9") (c := c) (d := 57) rfl rfl]
    exact q
theorem w_is_digit {K : PySem.W.Frag} {c : CEnv} : Wd (T_is_digit K) N_is_digit 1 (sp_is_digit K c) := wd_lift S_is_digit q_is_digit
def ps_is_field_name : PSp := fun ds Q _ => ∃ x : Str, ds = [.str x] ∧ x.length ≤ 90000 ∧ Q (.bl (fnZ x))
def sp_is_field_name (K : PySem.W.Frag) (c : CEnv) : Sp := lift K c ps_is_field_name
theorem b_is_field_name {K : PySem.W.Frag} {c : CEnv} : SpSim K c (sp_is_field_name K c) ps_is_field_name := spSim_lift
abbrev N_is_field_name : List Str := ["name", "sign"]
-- is_field_name(name): slots 0:name 1:sign
def T_is_field_name_b1 (K : PySem.W.Frag) (c : CEnv) : TS :=
    (tIfS (tAnd (tNot (tTru K (tCal (sp_is_letter K c) (tCons (tVar 1) tNil)))) (tNot (tTru K (tCal (sp_is_digit K c) (tCons (tVar 1) tNil))))) (tRet (tC (.bl false))) tNext)
def T_is_field_name (K : PySem.W.Frag) (c : CEnv) : TS :=
    (tSeq (tIfS (tOr (tTest (tOp (uEq K) (tVar 0) (tC (.str "")))) (tOr (tNot (tTru K (tCal (sp_is_letter K c) (tCons (tOp (uIx K) (tVar 0) (tC (.int 0))) tNil)))) (tTest (tOp (uIn K) (tVar 0) (tCstT K [.str "every", .str "has", .str "in", .str "and", .str "or", .str "not", .str "true", .str "false"]))))) (tRet (tC (.bl false))) tNext)
    (tSeq (tFor (iStr (tVar 0)) (gName 1) (T_is_field_name_b1 K c))
    (tRet (tC (.bl true)))))
def P_is_field_name_b1 : PSt :=
    (pIfS (pAnd (pNot (pTru (pCal ps_is_letter (pCons (pVar 1) pNil)))) (pNot (pTru (pCal ps_is_digit (pCons (pVar 1) pNil))))) (pRet (pC (.bl false))) pNext)
def P_is_field_name : PSt :=
    (pSeq (pIfS (pOr (pTest (pOp pEq (pVar 0) (pC (.str "")))) (pOr (pNot (pTru (pCal ps_is_letter (pCons (pOp pIx (pVar 0) (pC (.int 0))) pNil)))) (pTest (pOp pIn (pVar 0) (pCstT [.str "every", .str "has", .str "in", .str "and", .str "or", .str "not", .str "true", .str "false"]))))) (pRet (pC (.bl false))) pNext)
    (pSeq (pFor (piStr (pVar 0)) (pgName 1) P_is_field_name_b1)
    (pRet (pC (.bl true)))))
theorem S_is_field_name {K : PySem.W.Frag} {c : CEnv} : SimS ⟨K, c, W0, fun _ _ => False⟩ (T_is_field_name K c) (P_is_field_name) := by
  unfold T_is_field_name P_is_field_name T_is_field_name_b1 P_is_field_name_b1
  exact (sim_seq (sim_ifS (sim_or (sim_test (sim_op sim_eq (sim_var 0) (sim_str _))) (sim_or (sim_not (sim_tru (sim_cal b_is_letter (sim_cons (sim_op sim_ix (sim_var 0) (sim_int _)) sim_nil)))) (sim_test (sim_op sim_in (sim_var 0) sim_cstT)))) (sim_ret (sim_bl _)) sim_next)
    (sim_seq (sim_for (sim_iStr (sim_var 0)) (sim_gName 1) (sim_ifS (sim_and (sim_not (sim_tru (sim_cal b_is_letter (sim_cons (sim_var 1) sim_nil)))) (sim_not (sim_tru (sim_cal b_is_digit (sim_cons (sim_var 1) sim_nil))))) (sim_ret (sim_bl _)) sim_next))
    (sim_ret (sim_bl _))))

theorem q_is_field_name : ∀ ds Q E, ps_is_field_name ds Q E → ds.length = 1 ∧ P_is_field_name { nx := fun _ => Q .non, rt := Q } (startP 2 ds) := by
  rintro _ Q E ⟨x, rfl, hx, q⟩
  refine ⟨rfl, ?_⟩
  show P_is_field_name _ [some (.d (.str x)), none]
  unfold P_is_field_name
  walk_at "pz"
  by_cases h0 : x = ""
  · rw [decide_eq_true h0]
    walk_at "px"
    rw [show fnZ x = false by unfold fnZ; rw [decide_eq_true h0]; rfl] at q
    exact q
  rw [decide_eq_false h0]
  walk_at "px"
  obtain ⟨c0, r, e0⟩ : ∃ c0 r, x.cps.toList = c0 :: r := by
    cases e : x.cps.toList with
    | nil =>
      exfalso
      cases x with
      | mk a =>
        have z : a = #[] := by simpa using e
        subst z
        exact h0 (by decide +kernel)
    | cons c r => exact ⟨c, r, rfl⟩
  refine ⟨by omega, c0, by rw [e0]; exact atI_zero, ?_⟩
  walk_at "pz"
  refine ⟨c0, rfl, ?_⟩
  walk_at "pz"
  cases hl : letC c0 with
  | false =>
    walk_at "px"
    rw [show fnZ x = false by unfold fnZ; rw [e0]; show (_ && (letC c0 && _)) = false; rw [hl]; simp] at q
    exact q
  | true =>
  walk_at "pw"
  refine p_inTS (ks := WRD) ?_
  by_cases hw : x ∈ WRD
  · rw [decide_eq_true hw]
    walk_at "px"
    rw [show fnZ x = false by unfold fnZ; rw [decide_eq_true hw]; simp] at q
    exact q
  rw [decide_eq_false hw]
  walk_at "pw"
  have eq : fnZ x = x.cps.toList.all fun c => letC c || digC c := by
    unfold fnZ
    rw [decide_eq_false h0, decide_eq_false hw, e0]
    show (!false && (letC c0 && _)) = _
    rw [hl]; simp
  refine p_loop (fun i ρ => (∀ c ∈ x.cps.toList.take i, (letC c || digC c) = true) ∧ ∃ (w : Option Pv), ρ = [some (.d (.str x)), w]) ⟨(fun _ h => nomatch h), _, rfl⟩ ?_ ?_
  · rintro i d ρ' hd ⟨ok, w, rfl⟩
    obtain ⟨c, hc2, rfl⟩ := mapD_get hd
    have memc : c ∈ x.cps.toList := List.mem_of_getElem? hc2
    unfold P_is_field_name_b1
    walk_at "pz"
    refine ⟨c, rfl, ?_⟩
    walk_at "pz"
    have step : (letC c || digC c) = true → ∀ d ∈ x.cps.toList.take (i + 1), (letC d || digC d) = true := fun h d hd => by
      rw [List.take_succ, hc2] at hd
      rcases List.mem_append.mp hd with hd | hd
      · exact ok d hd
      · have : d = c := by simpa using hd
        rw [this]; exact h
    cases h1 : letC c with
    | true =>
      walk_at "px"
      exact ⟨step (by rw [h1]; rfl), _, rfl⟩
    | false =>
      walk_at "px"
      refine ⟨c, rfl, ?_⟩
      walk_at "pz"
      cases h2 : digC c with
      | true =>
        walk_at "px"
        exact ⟨step (by rw [h2]; simp), _, rfl⟩
      | false =>
        walk_at "px"
        have nf : fnZ x = false := by
          rw [eq, Bool.eq_false_iff]
          intro h
          have := List.all_eq_true.mp h c memc
          rw [h1, h2] at this; cases this
        rw [nf] at q
        exact q
  · rintro ρ' ⟨ok, w, rfl⟩
    walk_at "pz"
    rw [show fnZ x = true by
      rw [eq, List.all_eq_true]
      intro c hc
      exact ok c (by rw [List.take_of_length_le (by show x.cps.toList.length ≤ (strD x).length; unfold strD; rw [List.length_map]; exact Nat.le_refl _)]; exact hc)] at q
    exact q
theorem w_is_field_name {K : PySem.W.Frag} {c : CEnv} : Wd (T_is_field_name K c) N_is_field_name 1 (sp_is_field_name K c) := wd_lift S_is_field_name q_is_field_name

abbrev SCK : List Str := ["size", "width", "measure", "fields"]
abbrev RNG : List (Str × DV) := [("bit", .t [.int 0, .int 1]), ("small", .t [.int (-128), .int 127]), ("wide", .t [.int (-32768), .int 32767])]
abbrev ssF (f : List (Str × Str)) : List (Da × Da) := f.map fun x => (.str x.1, .str x.2)
theorem nodup_take {α β : Type} {f : α → β} : ∀ {l : List α} {i : Nat} {a : α}, (l.map f).Nodup → l[i]? = some a → f a ∉ (l.take i).map f
  | [], _, _, _, h => by cases h
  | x :: l, 0, a, _, h => by simp
  | x :: l, i + 1, a, nd, h => by
    rw [List.map_cons, List.nodup_cons] at nd
    rw [List.take_succ_cons, List.map_cons, List.mem_cons]
    rintro (e | e)
    · exact nd.1 (e ▸ List.mem_map_of_mem (List.mem_of_getElem? h))
    · exact nodup_take nd.2 (by simpa using h) e
structure SchF where
  n : Int
  w : Str
  m : Str
  f : List (Str × Str)
def SchF.da (s : SchF) : Da := .ins "Schema" SCK [.int s.n, .str s.w, .str s.m, .tup (prD (ssF s.f))]
structure SchF.Ok (s : SchF) : Prop where
  hn : 1 ≤ s.n
  hw : (RNG.lookup s.w).isSome = true
  hm : s.m ∈ MSR
  hb : s.m = "bits" → s.w = "bit"
  hf : ∀ x ∈ s.f, x.2 ∈ KND ∧ fnZ x.1 = true ∧ x.1.length ≤ 90000
  hd : (s.f.map (·.1)).Nodup
  hl : s.f.length ≤ 1000
def ps_Schema_init : PSi := fun ds Q _ => ∃ (s : SchF) (fv : Da), ds = [.int s.n, .str s.w, .str s.m, fv] ∧ seqD fv (prD (ssF s.f)) ∧ s.Ok ∧ Q [.int s.n, .str s.w, .str s.m, .tup (prD (ssF s.f))]
def sp_Schema_init (K : PySem.W.Frag) (c : CEnv) : Sp := liftI K c "Schema" SCK ps_Schema_init
theorem b_Schema_init {K : PySem.W.Frag} {c : CEnv} : SpSimI K c "Schema" SCK (sp_Schema_init K c) ps_Schema_init := spSimI_lift
abbrev N_Schema_init : List Str := ["self", "size", "width", "measure", "fields", "names", "name", "kind"]
-- Schema.__init__(self, size, width, measure, fields): slots 0:self 1:size 2:width 3:measure 4:fields 5:names 6:name 7:kind
def T_Schema_init_b1 (K : PySem.W.Frag) (c : CEnv) (W : WX) : TS :=
    (tSeq (tIfS (tOr (tTest (tOp (uNotIn K) (tVar 7) (tCstT K [.str "integer", .str "text", .str "flag"]))) (tOr (tNot (tTru K (tCal (sp_is_field_name K c) (tCons (tVar 6) tNil)))) (tTest (tOp (uIn K) (tVar 6) (tVar 5))))) (sRaise c "InvalidSchema" W) tNext)
    (tDrop (tBM K "list" rAppend (tVar 5) (tCons (tVar 6) tNil))))
def T_Schema_init (K : PySem.W.Frag) (c : CEnv) (W : WX) : TS :=
    (tSeq (tIfS (tOr (tTest (tOp (uLt K) (tVar 1) (tC (.int 1)))) (tOr (tTest (tKout [("bit", .t [.int 0, .int 1]), ("small", .t [.int (-128), .int 127]), ("wide", .t [.int (-32768), .int 32767])] (tVar 2))) (tTest (tOp (uNotIn K) (tVar 3) (tCstT K [.str "square", .str "dot", .str "bits"]))))) (sRaise c "InvalidSchema" W) tNext)
    (tSeq (tIfS (tAnd (tTest (tOp (uEq K) (tVar 3) (tC (.str "bits")))) (tTest (tOp (uNe K) (tVar 2) (tC (.str "bit"))))) (sRaise c "InvalidSchema" W) tNext)
    (tSeq (tAsg (tLst tNil) (gName 5))
    (tSeq (tFor (iSq K (tVar 4)) (gTup K 2 (gCons (gName 6) (gCons (gName 7) gNil))) (T_Schema_init_b1 K c W))
    (tSeq (sFld K (tVar 0) (tVar 1) "size")
    (tSeq (sFld K (tVar 0) (tVar 2) "width")
    (tSeq (sFld K (tVar 0) (tVar 3) "measure")
    (sFld K (tVar 0) (tCB (uTuple K) (tCons (tLc (iSq K (tVar 4)) (gTup K 2 (gCons (gName 6) (gCons (gName 7) gNil))) tYes (tTup (tCons (tVar 6) (tCons (tVar 7) tNil))) [6, 7]) tNil)) "fields"))))))))
def P_Schema_init_b1 (Wp : WP) : PSt :=
    (pSeq (pIfS (pOr (pTest (pOp pNotIn (pVar 7) (pCstT [.str "integer", .str "text", .str "flag"]))) (pOr (pNot (pTru (pCal ps_is_field_name (pCons (pVar 6) pNil)))) (pBorT 5 (pTest (pOp pIn (pVar 6) (pVar 5)))))) (pRaise Wp "InvalidSchema") pNext)
    (pApp 5 (pVar 6)))
def P_Schema_init (Wp : WP) : PSt :=
    (pSeq (pIfS (pOr (pTest (pOp pLt (pVar 1) (pC (.int 1)))) (pOr (pTest (pKout [("bit", .t [.int 0, .int 1]), ("small", .t [.int (-128), .int 127]), ("wide", .t [.int (-32768), .int 32767])] (pVar 2))) (pTest (pOp pNotIn (pVar 3) (pCstT [.str "square", .str "dot", .str "bits"]))))) (pRaise Wp "InvalidSchema") pNext)
    (pSeq (pIfS (pAnd (pTest (pOp pEq (pVar 3) (pC (.str "bits")))) (pTest (pOp pNe (pVar 2) (pC (.str "bit"))))) (pRaise Wp "InvalidSchema") pNext)
    (pSeq (pAsgO 5 (pNewL pNil))
    (pSeq (pFor (piSq (pVar 4)) (pgTup 2 (pgCons (pgName 6) (pgCons (pgName 7) pgNil))) (P_Schema_init_b1 Wp))
    (pSeq (pSetF 0 "size" (pVar 1))
    (pSeq (pSetF 0 "width" (pVar 2))
    (pSeq (pSetF 0 "measure" (pVar 3))
    (pSetF 0 "fields" (pCB pTuple (pCons (pLc (piSq (pVar 4)) (pgTup 2 (pgCons (pgName 6) (pgCons (pgName 7) pgNil))) pYes (pTup (pCons (pVar 6) (pCons (pVar 7) pNil))) [6, 7]) pNil))))))))))
theorem S_Schema_init {K : PySem.W.Frag} {c : CEnv} {W : WX} {Wp : WP} : SimS ⟨K, c, W, Wp⟩ (T_Schema_init K c W) (P_Schema_init Wp) := by
  unfold T_Schema_init P_Schema_init T_Schema_init_b1 P_Schema_init_b1
  exact (sim_seq (sim_ifS (sim_or (sim_test (sim_op sim_lt (sim_var 1) (sim_int _))) (sim_or (sim_test (sim_kout (sim_var 2))) (sim_test (sim_op sim_notIn (sim_var 3) sim_cstT)))) sim_raise sim_next)
    (sim_seq (sim_ifS (sim_and (sim_test (sim_op sim_eq (sim_var 3) (sim_str _))) (sim_test (sim_op sim_ne (sim_var 2) (sim_str _)))) sim_raise sim_next)
    (sim_seq (sim_asgO (simF_lst sim_nil))
    (sim_seq (sim_for (sim_iSq (sim_var 4)) (sim_gTup (sim_gCons (sim_gName 6) (sim_gCons (sim_gName 7) sim_gNil))) (sim_seq (sim_ifS (sim_or (sim_test (sim_op sim_notIn (sim_var 7) sim_cstT)) (sim_or (sim_not (sim_tru (sim_cal b_is_field_name (sim_cons (sim_var 6) sim_nil)))) (sim_borT (sim_test (sim_op sim_in (sim_var 6) (sim_var 5)))))) sim_raise sim_next)
    (sim_app (sim_var 6))))
    (sim_seq (sim_setF (sim_var 1))
    (sim_seq (sim_setF (sim_var 2))
    (sim_seq (sim_setF (sim_var 3))
    (sim_setF (sim_cb sim_tuple (sim_cons (sim_lc (sim_iSq (sim_var 4)) (sim_gTup (sim_gCons (sim_gName 6) (sim_gCons (sim_gName 7) sim_gNil))) (by decide) sim_yes (sim_tup (sim_cons (sim_var 6) (sim_cons (sim_var 7) sim_nil)))) sim_nil))))))))))

theorem q_Schema_init : ∀ ds Q E, ps_Schema_init ds Q E → ds.length + 1 = 5 ∧ P_Schema_init (fun x _ => E x) { nx := endI "Schema" SCK Q, rt := fun _ => False } (startI "Schema" SCK 8 ds) := by
  rintro _ Q E ⟨s, fv, rfl, hfv, ok, q⟩
  refine ⟨rfl, ?_⟩
  show P_Schema_init _ _ [some (.obj "Schema" SCK [] []), some (.d (.int s.n)), some (.d (.str s.w)), some (.d (.str s.m)), some (.d fv), none, none, none]
  unfold P_Schema_init
  have h1 := ok.hn
  have hl := ok.hl
  walk_at "pz"
  rw [decide_eq_false (show ¬ s.n < 1 by omega)]
  walk_at "pw"
  rw [ok.hw]
  walk_at "pw"
  refine p_notInTS (ks := MSR) ?_
  rw [decide_eq_true ok.hm]
  walk_at "pw"
  by_cases c : s.m = "bits"
  · rw [decide_eq_true c]
    walk_at "px"
    rw [decide_eq_true (ok.hb c)]
    walk_at "px"
    refine p_isqS hfv ?_
    refine p_loop (fun i ρ => ∃ (x6 x7 : Option Pv), ρ = [some (.obj "Schema" SCK [] []), some (.d (.int s.n)), some (.d (.str s.w)), some (.d (.str s.m)), some (.d fv), some (.own (((s.f.take i).map (·.1)).map Da.str)), x6, x7]) ⟨_, _, rfl⟩ ?_ ?_
    · rintro i d ρ' hd ⟨x6, x7, rfl⟩
      obtain ⟨z, ez, _, rfl⟩ := prD_get hd
      obtain ⟨y, ey, rfl⟩ : ∃ a, s.f[i]? = some a ∧ z = (.str a.1, .str a.2) := by
        rw [List.getElem?_map] at ez
        cases e : s.f[i]? with
        | none => rw [e] at ez; cases ez
        | some a => rw [e] at ez; cases ez; exact ⟨a, rfl, rfl⟩
      obtain ⟨f1, f2, f3⟩ := ok.hf y (List.mem_of_getElem? ey)
      have hi := (List.getElem?_eq_some_iff.mp ey).1
      unfold P_Schema_init_b1
      walk_at "pv"
      refine p_notInTS (ks := KND) ?_
      rw [decide_eq_true f1]
      walk_at "pw"
      refine ⟨_, rfl, f3, ?_⟩
      rw [f2]
      walk_at "pw"
      refine p_inLS ?_
      rw [decide_eq_false (nodup_take ok.hd ey)]
      walk_at "pw"
      · exact ⟨_, _, by rw [takeS ey, List.map_append, List.map_append]; rfl⟩
      · simp only [List.length_map, List.length_take]; omega
    · rintro ρ' ⟨x6, x7, rfl⟩
      walk_at "pz"
      refine p_isqS hfv ?_
      refine p_map (by rw [List.length_map, List.length_map]; omega) id (fun i x R hx k => ?_) ?_
      · obtain ⟨z, _, _, rfl⟩ := prD_get hx
        walk_at "pz"
        exact k
      rw [List.map_id]
      walk_at "pz"
      exact ⟨_, rfl, q⟩
  · rw [decide_eq_false c]
    walk_at "px"
    refine p_isqS hfv ?_
    refine p_loop (fun i ρ => ∃ (x6 x7 : Option Pv), ρ = [some (.obj "Schema" SCK [] []), some (.d (.int s.n)), some (.d (.str s.w)), some (.d (.str s.m)), some (.d fv), some (.own (((s.f.take i).map (·.1)).map Da.str)), x6, x7]) ⟨_, _, rfl⟩ ?_ ?_
    · rintro i d ρ' hd ⟨x6, x7, rfl⟩
      obtain ⟨z, ez, _, rfl⟩ := prD_get hd
      obtain ⟨y, ey, rfl⟩ : ∃ a, s.f[i]? = some a ∧ z = (.str a.1, .str a.2) := by
        rw [List.getElem?_map] at ez
        cases e : s.f[i]? with
        | none => rw [e] at ez; cases ez
        | some a => rw [e] at ez; cases ez; exact ⟨a, rfl, rfl⟩
      obtain ⟨f1, f2, f3⟩ := ok.hf y (List.mem_of_getElem? ey)
      have hi := (List.getElem?_eq_some_iff.mp ey).1
      unfold P_Schema_init_b1
      walk_at "pv"
      refine p_notInTS (ks := KND) ?_
      rw [decide_eq_true f1]
      walk_at "pw"
      refine ⟨_, rfl, f3, ?_⟩
      rw [f2]
      walk_at "pw"
      refine p_inLS ?_
      rw [decide_eq_false (nodup_take ok.hd ey)]
      walk_at "pw"
      · exact ⟨_, _, by rw [takeS ey, List.map_append, List.map_append]; rfl⟩
      · simp only [List.length_map, List.length_take]; omega
    · rintro ρ' ⟨x6, x7, rfl⟩
      walk_at "pz"
      refine p_isqS hfv ?_
      refine p_map (by rw [List.length_map, List.length_map]; omega) id (fun i x R hx k => ?_) ?_
      · obtain ⟨z, _, _, rfl⟩ := prD_get hx
        walk_at "pz"
        exact k
      rw [List.map_id]
      walk_at "pz"
      exact ⟨_, rfl, q⟩
theorem w_Schema_init {K : PySem.W.Frag} {c : CEnv} : WdX (T_Schema_init K c) N_Schema_init 5 (sp_Schema_init K c) := wd_liftIX (fun W Wp => S_Schema_init) (by decide) q_Schema_init

abbrev NK : List Str := ["low", "high"]
abbrev GK : List Str := ["parent", "facts"]
abbrev EK : List Str := ["number", "record", "leaves"]
abbrev OK : List Str := ["partitions", "entries"]
def okFl (l m : List Da) : Prop := l.all flD = true ∧ m.all flD = true
theorem eqDs_reflF {l : List Da} (h : l.all flD = true) : eqDs l l = true := eqDs_refl fun d hd => by
  have := List.all_eq_true.mp h d hd
  rw [eqD_flat this this]; exact eq0_refl d this
-- Norms.__init__(self, low, high): slots 0:self 1:low 2:high
def ps_Norms_eq : PSp := psEqOf "Norms" NK okFl
-- Norms.__eq__(self, other): slots 0:self 1:other
def FactOk (d : Da) : Prop := ∃ a b, d = .ins "Norms" NK [a, b] ∧ flD a = true ∧ flD b = true
def tabF : ETab := [("Norms", ps_Norms_eq)]
theorem FactOk.cq {d e : Da} (h : FactOk d) (h2 : FactOk e) : CqX tabF 1 d e := by
  obtain ⟨a, b, rfl, fa, fb⟩ := h
  obtain ⟨a2, b2, rfl, fa2, fb2⟩ := h2
  exact CqX.ins (List.mem_cons_self ..) ⟨rfl, .inl ⟨_, rfl, rfl, by simp [okFl, fa, fb, fa2, fb2]⟩⟩ (by rw [eqD_same (by decide)]; exact eqDs_reflF (by simp [fa, fb])) (fun y ks m e => by cases e; exact .inl rfl)
theorem CqX.all {tab : ETab} {n : Nat} {p : Da → Prop} (hp : ∀ {d e : Da}, p d → p e → CqX tab n d e) {a b : List Da} (h1 : ∀ d ∈ a, p d) (h2 : ∀ d ∈ b, p d) : CqX tab (n + 1) (.tup a) (.tup b) := CqX.tup fun _ _ _ hu hv => hp (h1 _ (List.mem_of_getElem? hu)) (h2 _ (List.mem_of_getElem? hv))
-- Region.__init__(self, parent, facts): slots 0:self 1:parent 2:facts
def okReg (l m : List Da) : Prop := ∃ p fs p2 fs2, l = [p, .tup fs] ∧ m = [p2, .tup fs2] ∧ flD p = true ∧ flD p2 = true ∧ (∀ d ∈ fs, FactOk d) ∧ ∀ d ∈ fs2, FactOk d
def ps_Region_eq : PSp := psEqOf "Region" GK okReg
-- Region.__eq__(self, other): slots 0:self 1:other
def RegOk (d : Da) : Prop := ∃ p fs, d = .ins "Region" GK [p, .tup fs] ∧ flD p = true ∧ ∀ d ∈ fs, FactOk d
def tabG : ETab := [("Region", ps_Region_eq)]
theorem FactOk.refl {d : Da} (h : FactOk d) : eqD d d = true := (h.cq h).refl
theorem RegOk.refl {d : Da} (h : RegOk d) : eqD d d = true := by
  obtain ⟨p, fs, rfl, fp, hf⟩ := h
  rw [eqD_same (by decide), eqDs, eqDs, eqDs, Bool.and_true, eqD_flat fp fp, eq0_refl p fp, Bool.true_and]
  simp only [eqD]
  exact eqDs_refl fun x hx => (hf x hx).refl
theorem RegOk.cq {d e : Da} (h : RegOk d) (h2 : RegOk e) : CqX tabG 1 d e := by
  have hr := h.refl
  obtain ⟨p, fs, rfl, fp, hf⟩ := h
  obtain ⟨p2, fs2, rfl, fp2, hf2⟩ := h2
  exact CqX.ins (List.mem_cons_self ..) ⟨rfl, .inl ⟨_, rfl, rfl, p, fs, p2, fs2, rfl, rfl, fp, fp2, hf, hf2⟩⟩ hr (fun y ks m e => by cases e; exact .inl rfl)
def RecOk (d : Da) : Prop := ∃ n v lf lw, d = recD n v (prD lf) (prD lw) ∧ flD n = true ∧ v.all flD = true ∧ FlF lf ∧ FlF lw
def tabR : ETab := [("Record", ps_Record_eq)]
theorem eqF_refl {l : List (Da × Da)} (h : FlF l) : eqF (.tup (prD l)) (.tup (prD l)) = true := eqF_true rfl fun i x y hx hy => by
  obtain ⟨z, _, m, rfl⟩ := prD_get hx
  rw [hx] at hy
  cases hy
  simp [eqF1, eq0_refl _ (h _ m).1, eq0_refl _ (h _ m).2]
theorem prD_refl {l : List (Da × Da)} (h : FlF l) : eqDs (prD l) (prD l) = true := eqDs_refl fun d hd => by
  obtain ⟨z, m, rfl⟩ := List.mem_map.mp hd
  simp only [eqD]
  exact eqDs_reflF (by simp [(h _ m).1, (h _ m).2])
theorem eqD_rec {n n2 : Da} {v v2 f f2 w w2 : List Da} : eqD (recD n v f w) (recD n2 v2 f2 w2) = (eqD n n2 && (eqD (.tup v) (.tup v2) && (eqF (.tup f) (.tup f2) && eqD (.tup w) (.tup w2)))) := by simp [eqD, eqRs]
theorem RecOk.refl {d : Da} (h : RecOk d) : eqD d d = true := by
  obtain ⟨n, v, lf, lw, rfl, fn, fv, ff, fw⟩ := h
  rw [eqD_rec, eqD_flat fn fn, eq0_refl n fn, eqF_refl ff]
  simp only [eqD, Bool.true_and]
  rw [eqDs_reflF fv, prD_refl fw]; rfl
theorem RecOk.cq {d e : Da} (h : RecOk d) (h2 : RecOk e) : CqX tabR 1 d e := by
  have hr := h.refl
  obtain ⟨n, v, lf, lw, rfl, fn, fv, ff, fw⟩ := h
  obtain ⟨n2, v2, lf2, lw2, rfl, fn2, fv2, ff2, fw2⟩ := h2
  exact CqX.ins (List.mem_cons_self ..) ⟨rfl, .inl ⟨_, rfl, rfl, n, v, lf, lw, n2, v2, lf2, lw2, rfl, rfl, fn, fn2, fv, fv2, ff, ff2, fw, fw2⟩⟩ hr (fun y ks m e => by cases e; exact .inl rfl)
-- Entry.__init__(self, number, record, leaves): slots 0:self 1:number 2:record 3:leaves
def okEnt (l m : List Da) : Prop := ∃ i r v i2 r2 v2, l = [i, r, .tup v] ∧ m = [i2, r2, .tup v2] ∧ flD i = true ∧ flD i2 = true ∧ RecOk r ∧ RecOk r2 ∧ v.all flD = true ∧ v2.all flD = true
def ps_Entry_eq : PSp := psEqOf "Entry" EK okEnt
-- Entry.__eq__(self, other): slots 0:self 1:other
def EntOk (d : Da) : Prop := ∃ i r v, d = .ins "Entry" EK [i, r, .tup v] ∧ flD i = true ∧ RecOk r ∧ v.all flD = true
def tabE : ETab := [("Entry", ps_Entry_eq)]
theorem EntOk.refl {d : Da} (h : EntOk d) : eqD d d = true := by
  obtain ⟨i, r, v, rfl, fi, hr, fv⟩ := h
  rw [eqD_same (by decide), eqDs, eqDs, eqDs, eqDs, Bool.and_true, eqD_flat fi fi, eq0_refl i fi, Bool.true_and, hr.refl, Bool.true_and]
  simp only [eqD]
  exact eqDs_reflF fv
theorem EntOk.cq {d e : Da} (h : EntOk d) (h2 : EntOk e) : CqX tabE 1 d e := by
  have hr := h.refl
  obtain ⟨i, r, v, rfl, fi, hr1, fv⟩ := h
  obtain ⟨i2, r2, v2, rfl, fi2, hr2, fv2⟩ := h2
  exact CqX.ins (List.mem_cons_self ..) ⟨rfl, .inl ⟨_, rfl, rfl, i, r, v, i2, r2, v2, rfl, rfl, fi, fi2, hr1, hr2, fv, fv2⟩⟩ hr (fun y ks m e => by cases e; exact .inl rfl)
-- Offer.__init__(self, partitions, entries): slots 0:self 1:partitions 2:entries 3:regions
def PartOk (d : Da) : Prop := ∃ rs, d = .tup rs ∧ ∀ r ∈ rs, RegOk r
theorem PartOk.cq {d e : Da} (h : PartOk d) (h2 : PartOk e) : CqX tabG 2 d e := by
  obtain ⟨a, rfl, ha⟩ := h
  obtain ⟨b, rfl, hb⟩ := h2
  exact CqX.all RegOk.cq ha hb
-- Offer.__eq__(self, other): slots 0:self 1:other
def OffOk (d : Da) : Prop := ∃ p e, d = .ins "Offer" OK [.tup p, .tup e] ∧ (∀ d ∈ p, PartOk d) ∧ ∀ d ∈ e, EntOk d
theorem OffOk.refl {d : Da} (h : OffOk d) : eqD d d = true := by
  obtain ⟨p, e, rfl, hp, he⟩ := h
  rw [eqD_same (by decide), eqDs, eqDs, eqDs, Bool.and_true]
  simp only [eqD]
  rw [eqDs_refl fun x hx => ((hp x hx).cq (hp x hx)).refl, eqDs_refl fun x hx => (he x hx).refl]; rfl

local macro_rules | `(tactic| walk_at "pu") => `(tactic| (with_reducible first | refine p_istr ?_ | refine p_cstT ?_ | refine p_kout ?_ | refine p_kin ?_ | refine p_kst ?_ | refine p_ord ?_ | (refine p_lenS (by omega) ?_)))
local macro_rules | `(tactic| walk_at "pv") => `(tactic| repeat (first | walk_at "p1" | walk_at "pu"))
local macro_rules | `(tactic| walk_at "pw") => `(tactic| repeat (first | walk_at "p1" | walk_at "pu" | walk_at "pd"))

abbrev NTK : List Str := ["name", "number", "mark", "died", "record", "segment", "leaves"]
def oD : Option Int → Da | none => .non | some i => .int i
theorem vSm_fl {d : Da} (h : vSmF d) : flD d = true := by cases d <;> first | rfl | exact h.elim
theorem RecF.Sm.ok {r : RecF} (h : r.Sm) : RecOk r.da := ⟨_, _, fF r.f, wF r.w, rfl, rfl, flI, fun z hz => by
  obtain ⟨x, hx, rfl⟩ := List.mem_map.mp hz
  exact ⟨rfl, vSm_fl (h.fs x hx).2⟩, fun z hz => by
  obtain ⟨x, hx, rfl⟩ := List.mem_map.mp hz
  exact ⟨rfl, rfl⟩⟩
-- Note.__init__(self, name, number, mark, died, record, segment, leaves): slots 0:self 1:name 2:number 3:mark 4:died 5:record 6:segment 7:leaves
-- Note.lives_at(self, moment): slots 0:self 1:moment
-- Note.matches(self, key, number, record): slots 0:self 1:key 2:number 3:record
-- Note.__eq__(self, other): slots 0:self 1:other
section
variable {X : Cx} {c : CEnv} {k : Nat} {x m : Str} {ps gs : List Str} {sp : Sp} {p pos apos : Pos} {e : Expr} {es : List Expr} {t : TA} {pl : Sem Bool}
end
section
variable {X : Cx}
end

section
variable {N : Cn}
end
section
variable {ρ : PEnv} {D : PD} {Q : Da → Prop}
end

section
variable {N : Cn}
end
section
variable {N : Cn}
end

local macro_rules | `(tactic| walk_at "pu") => `(tactic| (with_reducible first | refine p_istr ?_ | refine p_cstT ?_ | refine p_kout ?_ | refine p_kin ?_ | refine p_kst ?_ | refine p_ord ?_ | refine p_izip2 ?_ | refine p_izip3 ?_ | (refine p_zip2 (by first | exact seqL | exact seqT | assumption) (by first | exact seqL | exact seqT | assumption) ?_) | (refine p_zip3 (by first | exact seqL | exact seqT | assumption) (by first | exact seqL | exact seqT | assumption) (by first | exact seqL | exact seqT | assumption) ?_) | (refine p_lenS (by omega) ?_)))
local macro_rules | `(tactic| walk_at "pv") => `(tactic| repeat (first | walk_at "p1" | walk_at "pu"))
local macro_rules | `(tactic| walk_at "pw") => `(tactic| repeat (first | walk_at "p1" | walk_at "pu" | walk_at "pd"))

theorem p_loop2 {x y : Da} {g : PTg} {p : PSt} {D : PD} {ρ : PEnv} (h : g x ρ fun ρ2 => p { D with nx := fun ρ' => g y ρ' fun ρ3 => p { D with nx := D.nx, ct := D.nx, bk := D.nx } ρ3, ct := fun ρ' => g y ρ' fun ρ3 => p { D with nx := D.nx, ct := D.nx, bk := D.nx } ρ3, bk := D.nx } ρ2) : pLoop [x, y] g p D ρ :=
  p_loop (fun i ρ' => match i with | 0 => ρ' = ρ | 1 => g y ρ' fun ρ3 => p { D with nx := D.nx, ct := D.nx, bk := D.nx } ρ3 | _ => D.nx ρ') rfl (fun i z ρ' hz hi => by
    match i, hz, hi with
    | 0, hz, hi => cases hz; subst hi; exact h
    | 1, hz, hi => cases hz; exact hi) (fun ρ' h => h)
-- Schema.least(self): slots 0:self
-- Schema.greatest(self): slots 0:self
-- kind_of_value(worth): slots 0:worth
-- words_fit(words): slots 0:words 1:before 2:word 3:count
-- Schema.has_vector(self, vector): slots 0:self 1:vector 2:number
-- Schema.has_fields(self, pairs): slots 0:self 1:pairs 2:at 3:name 4:worth
-- Schema.__contains__(self, record): slots 0:self 1:record
-- Schema.check(self, record): slots 0:self 1:record
def ps_check_key : PSp := fun ds Q E => ∃ a b : Int, ds = [.tup [.int a, .int b]] ∧ 0 ≤ a ∧ a < 4294967291 ∧ 0 ≤ b ∧ b < 4294967291 ∧ Q .non
def sp_check_key (K : PySem.W.Frag) (c : CEnv) : Sp := lift K c ps_check_key
theorem b_check_key {K : PySem.W.Frag} {c : CEnv} : SpSim K c (sp_check_key K c) ps_check_key := spSim_lift
abbrev N_check_key : List Str := ["key", "number"]
-- check_key(key): slots 0:key 1:number
def T_check_key_b1 (K : PySem.W.Frag) (c : CEnv) (W : WX) : TS :=
    (tIfS (tOr (tTest (tOp (uLt K) (tVar 1) (tC (.int 0)))) (tTest (tOp uGe (tVar 1) (tC (.int 4294967291))))) (sRaise c "InvalidKey" W) tNext)
def T_check_key (K : PySem.W.Frag) (c : CEnv) (W : WX) : TS :=
    (tFor (iSq K (tVar 0)) (gName 1) (T_check_key_b1 K c W))
def P_check_key_b1 (Wp : WP) : PSt :=
    (pIfS (pOr (pTest (pOp pLt (pVar 1) (pC (.int 0)))) (pTest (pOp pGe (pVar 1) (pC (.int 4294967291))))) (pRaise Wp "InvalidKey") pNext)
def P_check_key (Wp : WP) : PSt :=
    (pFor (piSq (pVar 0)) (pgName 1) (P_check_key_b1 Wp))
theorem S_check_key {K : PySem.W.Frag} {c : CEnv} {W : WX} {Wp : WP} : SimS ⟨K, c, W, Wp⟩ (T_check_key K c W) (P_check_key Wp) := by
  unfold T_check_key P_check_key T_check_key_b1 P_check_key_b1
  exact (sim_for (sim_iSq (sim_var 0)) (sim_gName 1) (sim_ifS (sim_or (sim_test (sim_op sim_lt (sim_var 1) (sim_int _))) (sim_test (sim_op sim_ge (sim_var 1) (sim_int _)))) sim_raise sim_next))

theorem q_check_key : ∀ ds Q E, ps_check_key ds Q E → ds.length = 1 ∧ P_check_key (fun x _ => E x) { nx := fun _ => Q .non, rt := Q } (startP 2 ds) := by
  rintro _ Q E ⟨a, b, rfl, a0, a1, b0, b1, q⟩
  refine ⟨rfl, ?_⟩
  show P_check_key _ _ [some (.d (.tup [.int a, .int b])), none]
  unfold P_check_key P_check_key_b1
  walk_at "pz"
  refine p_loop2 ?_
  walk_at "pz"
  rw [if_neg (by simp; omega)]
  walk_at "pz"
  rw [if_neg (by simp; omega)]
  walk_at "pz"
  rw [if_neg (by simp; omega)]
  walk_at "pz"
  rw [if_neg (by simp; omega)]
  walk_at "pz"
  exact q
theorem w_check_key {K : PySem.W.Frag} {c : CEnv} : WdX (T_check_key K c) N_check_key 1 (sp_check_key K c) := wd_liftX (fun W Wp => S_check_key) q_check_key


def Mu.at : List Nat → Mu → Option Mu
  | [], T => some T
  | k :: p, .l ts => match ts[k]? with
    | some t => Mu.at p t
    | none => none
  | k :: p, .o _ _ ts => match ts[k]? with
    | some t => Mu.at p t
    | none => none
  | _ :: _, _ => none
def Mu.put : List Nat → Mu → Mu → Mu
  | [], u, _ => u
  | k :: p, u, .l ts => match ts[k]? with
    | some t => .l (ts.set k (Mu.put p u t))
    | none => .l ts
  | k :: p, u, .o x ks ts => match ts[k]? with
    | some t => .o x ks (ts.set k (Mu.put p u t))
    | none => .o x ks ts
  | _ :: _, _, T => T
def AtV (H : Hp) : List Nat → Mu → V → V → Prop
  | [], _, v, v1 => v = v1
  | k :: p, .l ts, v, v1 => ∃ a vs u t, v = .ref a ∧ H a = some (.lst vs) ∧ vs[k]? = some u ∧ ts[k]? = some t ∧ AtV H p t u v1
  | k :: p, .o _ ks ts, v, v1 => ∃ a C dx vs u t, v = .ref a ∧ H a = some (.ins C dx (ks.zip vs)) ∧ vs.length = ks.length ∧ vs[k]? = some u ∧ ts[k]? = some t ∧ AtV H p t u v1
  | _ :: _, _, _, _ => False
section
variable {K : PySem.W.Frag} {c : CEnv} {S : Option Addr} {H H' G G' : Hp}
theorem set_id {α : Type} {l : List α} {k : Nat} {u : α} (h : l[k]? = some u) : l.set k u = l := by
  apply List.ext_getElem?
  intro i
  rw [getElem?_set']
  by_cases q : k = i
  · subst q
    rw [if_pos rfl, if_pos (List.getElem?_eq_some_iff.mp h).1, h]
  · rw [if_neg q]
theorem RpMs.len {vs : List V} {ts : List Mu} {as : List Addr} (h : RpMs K c S H G vs ts as) : vs.length = ts.length := by
  induction ts generalizing vs as with
  | nil => cases h; rfl
  | cons t ts ih => cases h with | cons a b => simp [ih b]
theorem RpMs.app {vs ws : List V} {ts us : List Mu} {as bs : List Addr} (h : RpMs K c S H G vs ts as) (h2 : RpMs K c S H G ws us bs) : RpMs K c S H G (vs ++ ws) (ts ++ us) (as ++ bs) := by
  induction ts generalizing vs as with
  | nil => cases h; exact h2
  | cons t ts ih => cases h with | cons a b => rw [List.append_assoc]; exact .cons a (ih b)
theorem RpMs.one {v : V} {t : Mu} {as : List Addr} (h : RpM K c S H G v t as) : RpMs K c S H G [v] [t] as := by
  have := RpMs.cons h .nil
  rwa [List.append_nil] at this
theorem RpMs.ofA {vs : List V} {l : List Da} (h : RpA K c S G vs l) : RpMs K c S H G vs (l.map Mu.d) [] := by
  induction l generalizing vs with
  | nil => rw [rps0 h]; exact .nil
  | cons d l ih => obtain ⟨v, ws, rfl, a, b⟩ := rpsC h; exact .cons (.d a) (ih b)
theorem RpMs.split {k : Nat} {t : Mu} : ∀ {ts : List Mu} {vs : List V} {as : List Addr}, RpMs K c S H G vs ts as → ts[k]? = some t → ∃ u xs as1 ys, vs[k]? = some u ∧ as = xs ++ as1 ++ ys ∧ RpM K c S H G u t as1 ∧
    ∀ H' G' u' t' as1', (∀ a ∈ xs ++ ys, ∀ o, H a = some o → H' a = some o) → Same G G' → RpM K c S H' G' u' t' as1' → RpMs K c S H' G' (vs.set k u') (ts.set k t') (xs ++ as1' ++ ys) := by
  intro ts
  induction ts generalizing k with
  | nil => intro vs as h e; cases e
  | cons t0 ts ih =>
    intro vs as h e
    cases h with
    | cons h1 h2 =>
      rename_i v vs as1 bs
      cases k with
      | zero =>
        cases e
        refine ⟨v, [], as1, bs, rfl, by simp, h1, fun H' G' u' t' as1' fr s r => ?_⟩
        exact .cons r (RpMs.mono s _ _ _ (fun a m => fr a (by simpa using m)) h2)
      | succ k =>
        obtain ⟨u, xs, as2, ys, e1, rfl, r1, back⟩ := ih h2 e
        refine ⟨u, as1 ++ xs, as2, ys, e1, by simp, r1, fun H' G' u' t' as1' fr s r => ?_⟩
        have := RpMs.cons (RpM.mono s _ _ _ (fun a m => fr a (by simp [m])) h1) (back H' G' u' t' as1' (fun a m => fr a (by simp only [List.mem_append] at m ⊢; rcases m with m | m <;> simp [m])) s r)
        simpa [List.append_assoc] using this
theorem RpM.foc {T1 : Mu} : ∀ {p : List Nat} {T : Mu} {v : V} {as : List Addr}, RpM K c S H G v T as → T.at p = some T1 → ∃ v1 xs as1 ys, as = xs ++ as1 ++ ys ∧ AtV H p T v v1 ∧ RpM K c S H G v1 T1 as1 ∧
    ∀ H' G' T1' as1', (∀ a ∈ xs ++ ys, ∀ o, H a = some o → H' a = some o) → Same G G' → RpM K c S H' G' v1 T1' as1' → RpM K c S H' G' v (Mu.put p T1' T) (xs ++ as1' ++ ys) := by
  intro p
  induction p with
  | nil =>
    intro T v as h e
    cases e
    exact ⟨v, [], as, [], by simp, rfl, h, fun H' G' T1' as1' _ _ r => by simpa [Mu.put] using r⟩
  | cons k p ih =>
    intro T v as h e
    cases T with
    | d x => cases e
    | h v => cases e
    | l ts =>
      cases h with
      | l ea r =>
        rename_i a vs as
        unfold Mu.at at e
        cases et : ts[k]? with
        | none => rw [et] at e; cases e
        | some t =>
          rw [et] at e
          obtain ⟨u, xs, as1, ys, e1, rfl, r1, back⟩ := r.split et
          obtain ⟨v1, xs2, as2, ys2, rfl, av, r2, back2⟩ := ih r1 e
          refine ⟨v1, a :: xs ++ xs2, as2, ys2 ++ ys, by simp, ⟨a, vs, u, t, rfl, ea, e1, et, av⟩, r2, fun H' G' T1' as1' fr s rr => ?_⟩
          have b2 := back2 H' G' T1' as1' (fun a m => fr a (by simp only [List.mem_append, List.mem_cons] at m ⊢; rcases m with m | m <;> simp [m])) s rr
          have b1 := back H' G' u _ _ (fun a m => fr a (by simp only [List.mem_append, List.mem_cons] at m ⊢; rcases m with m | m <;> simp [m])) s b2
          rw [set_id e1] at b1
          have := RpM.l (K := K) (c := c) (S := S) (G := G') (fr a (by simp) _ ea) b1
          rw [show Mu.put (k :: p) T1' (.l ts) = .l (ts.set k (Mu.put p T1' t)) by simp only [Mu.put, et]]
          simpa [List.append_assoc] using this
    | o x ks ts =>
      cases h with
      | o ok ea hl r =>
        rename_i a dx vs as
        unfold Mu.at at e
        cases et : ts[k]? with
        | none => rw [et] at e; cases e
        | some t =>
          rw [et] at e
          obtain ⟨u, xs, as1, ys, e1, rfl, r1, back⟩ := r.split et
          obtain ⟨v1, xs2, as2, ys2, rfl, av, r2, back2⟩ := ih r1 e
          refine ⟨v1, a :: xs ++ xs2, as2, ys2 ++ ys, by simp, ⟨a, _, dx, vs, u, t, rfl, ea, r.len.trans hl, e1, et, av⟩, r2, fun H' G' T1' as1' fr s rr => ?_⟩
          have b2 := back2 H' G' T1' as1' (fun a m => fr a (by simp only [List.mem_append, List.mem_cons] at m ⊢; rcases m with m | m <;> simp [m])) s rr
          have b1 := back H' G' u _ _ (fun a m => fr a (by simp only [List.mem_append, List.mem_cons] at m ⊢; rcases m with m | m <;> simp [m])) s b2
          rw [set_id e1] at b1
          have := RpM.o (K := K) (c := c) (S := S) (G := G') ok (fr a (by simp) _ ea) (by rw [List.length_set]; exact hl) b1
          rw [show Mu.put (k :: p) T1' (.o x ks ts) = .o x ks (ts.set k (Mu.put p T1' t)) by simp only [Mu.put, et]]
          simpa [List.append_assoc] using this
theorem AtV.det {v1 v2 : V} : ∀ {p : List Nat} {T : Mu} {v : V}, AtV H p T v v1 → AtV H p T v v2 → v1 = v2
  | [], _, _, h1, h2 => (show _ = v1 from h1).symm.trans h2
  | k :: p, .l ts, v, h1, h2 => by
    obtain ⟨a, vs, u, t, rfl, e, eu, et, h⟩ := h1
    obtain ⟨a', vs', u', t', ea, e', eu', et', h'⟩ := h2
    cases ea
    rw [e] at e'
    cases e'
    rw [eu] at eu'; cases eu'
    rw [et] at et'; cases et'
    exact AtV.det h h'
  | k :: p, .o x ks ts, v, h1, h2 => by
    obtain ⟨a, C, dx, vs, u, t, rfl, e, lv, eu, et, h⟩ := h1
    obtain ⟨a', C', dx', vs', u', t', ea, e', lv', eu', et', h'⟩ := h2
    cases ea
    rw [e] at e'
    injection e' with e'
    injection e' with _ _ ez
    have hz : vs = vs' := by
      have := congrArg (List.map Prod.snd) ez
      rwa [List.map_snd_zip (by omega), List.map_snd_zip (by omega)] at this
    subst hz
    rw [eu] at eu'; cases eu'
    rw [et] at et'; cases et'
    exact AtV.det h h'
  | _ :: _, .d _, _, h1, _ => h1.elim
  | _ :: _, .h _, _, h1, _ => h1.elim
theorem AtV.mono {v1 : V} : ∀ {p : List Nat} {T : Mu} {v : V} {as : List Addr}, RpM K c S H G v T as → (∀ a ∈ as, ∀ o, H a = some o → H' a = some o) → AtV H p T v v1 → AtV H' p T v v1
  | [], _, _, _, _, _, h => h
  | k :: p, .l ts, v, as, r, fr, h => by
    obtain ⟨a, vs, u, t, rfl, e, eu, et, h⟩ := h
    cases r with
    | l ea r =>
      rw [e] at ea; cases ea
      obtain ⟨u', xs, as1, ys, e1, rfl, r1, _⟩ := r.split et
      rw [eu] at e1; cases e1
      exact ⟨a, vs, u, t, rfl, fr a (List.mem_cons_self ..) _ e, eu, et, AtV.mono r1 (fun b m => fr b (by simp [m])) h⟩
  | k :: p, .o x ks ts, v, as, r, fr, h => by
    obtain ⟨a, C, dx, vs, u, t, rfl, e, lv, eu, et, h⟩ := h
    cases r with
    | o ok ea hl r =>
      rename_i vs2 _
      have e2 := ea
      rw [e] at e2
      injection e2 with e2
      injection e2 with _ _ ez
      have l2 := r.len
      have hz : vs = vs2 := by
        have := congrArg (List.map Prod.snd) ez
        rwa [List.map_snd_zip (by omega), List.map_snd_zip (by omega)] at this
      subst hz
      obtain ⟨u', xs, as1, ys, e1, rfl, r1, _⟩ := r.split et
      rw [eu] at e1; cases e1
      exact ⟨a, C, dx, vs, u, t, rfl, fr a (List.mem_cons_self ..) _ e, lv, eu, et, AtV.mono r1 (fun b m => fr b (by simp [m])) h⟩
  | _ :: _, .d _, _, _, _, _, h => h.elim
  | _ :: _, .h _, _, _, _, _, h => h.elim
end
section
variable {N : Cn} {w : Pw} {H0 B H H' : Hp} {ow ow' : Ow} {σ σ' : L2.St} {ρ ρ' : PEnv}
theorem Rel.chg {X : List Addr} (r : Rel N.K N.c w H0 B ow H σ ρ)
    (fr : ∀ a o, a ∉ X → (∀ st L, w.S = some (st, L) → a ≠ st) → Nt o → H a = some o → H' a = some o)
    (hX : ∀ a ∈ X, ∃ i, (i, a) ∈ ow) (oc : ∀ p ∈ ow', p.2 ∈ X ∨ Fre H p.2 → ∃ o, H' p.2 = some o ∧ Pl o) (dr : ∀ st L, w.S = some (st, L) → Draw H' st L)
    (o1 : ∀ p ∈ ow', (∃ j, (j, p.2) ∈ ow) ∨ Fre H p.2) (inj : ∀ p ∈ ow', ∀ q ∈ ow', p.2 = q.2 → p = q) (keep : ∀ p ∈ ow, p.2 ∉ X → p ∈ ow')
    (len : σ'.length = ρ'.length)
    (sl : Same (dh w ow H) (dh w ow' H') → ∀ j x, ρ'[j]? = some (some x) → (ρ[j]? = some (some x) ∧ σ'[j]? = σ[j]? ∧ ∀ a ∈ X, (j, a) ∉ ow) ∨ SlotOk N.K N.c w ow' H' σ' j x) (tb : LamX.Tabs N.c.tb H') :
    Rel N.K N.c w H0 B ow' H' σ' ρ' ∧ Same (dh w ow H) (dh w ow' H') := by
  have notO : ∀ a ∈ X, a ∉ w.O := fun a ha => by obtain ⟨i, m⟩ := hX a ha; exact (r.nd _ m).2
  have notSt : ∀ a ∈ X, ∀ st L, w.S = some (st, L) → a ≠ st := fun a ha => by obtain ⟨i, m⟩ := hX a ha; exact r.notSt m
  have occO : ∀ a, a ∈ hl w ow → a ∉ X → ∃ o, H' a = some o ∧ Pl o := fun a ha m => by
      obtain ⟨o, e, n⟩ := r.occ a ha
      by_cases q : ∃ st L, w.S = some (st, L) ∧ a = st
      · obtain ⟨st, L, e1, rfl⟩ := q; exact (dr _ _ e1).occP
      · exact ⟨o, fr a o m (fun st L z1 z2 => q ⟨st, L, z1, z2⟩) n.1 e, n⟩
  have sd : Same (dh w ow H) (dh w ow' H') := fun a o e => by
    obtain ⟨ma, e, nt⟩ := hid_some e
    have mx : a ∉ X := fun m => by obtain ⟨i, z⟩ := hX a m; exact ma (List.mem_append_left _ (List.mem_map_of_mem (f := (·.2)) z))
    have e' : H' a = some o := fr a o mx (fun st L z1 z2 => ma (z2 ▸ r.stO st L z1)) nt e
    have ma' : a ∉ hl w ow' := fun m => by
      rcases List.mem_append.mp m with m | m
      · obtain ⟨p, hp, rfl⟩ := List.mem_map.mp m
        rcases o1 p hp with ⟨j, z⟩ | z
        · exact ma (List.mem_append_left _ (List.mem_map_of_mem (f := (·.2)) z))
        · exact z _ nt e
      · exact ma (List.mem_append_right _ m)
    exact hid_lk ma' e' nt
  refine ⟨⟨fun a ha => ?_, fun st L e => ⟨dr st L e, (r.dr st L e).2⟩, fun p hp => ?_, inj, fun a o n nt e => ?_, fun p hp => ?_, len, fun j x e => ?_, Same.trans r.bs sd, tb⟩, sd⟩
  · rcases List.mem_append.mp ha with ha | ha
    · obtain ⟨p, hp, rfl⟩ := List.mem_map.mp ha
      by_cases m : p.2 ∈ X
      · exact oc p hp (.inl m)
      · rcases o1 p hp with ⟨j, z⟩ | z
        · exact occO _ (List.mem_append_left _ (List.mem_map_of_mem (f := (·.2)) z)) m
        · exact oc p hp (.inr z)
    · exact occO _ (List.mem_append_right _ ha) (fun m => notO a m ha)
  · rcases o1 p hp with ⟨j, z⟩ | z
    · exact r.nd (j, p.2) z
    · refine ⟨fun st L e => ⟨fun q => ?_, fun q => ?_⟩, fun m => ?_⟩
      · obtain ⟨o, eo, n⟩ := (r.dr st L e).1.occP; exact z o n.1 (q ▸ eo)
      · obtain ⟨o, eo, n⟩ := (r.dr st L e).1.occPL; exact z o n.1 (q ▸ eo)
      · obtain ⟨o, eo, n⟩ := r.occ p.2 (List.mem_append_right _ m); exact z o n.1 eo
  · have e1 := r.fr a o n nt e
    refine fr a o (fun m => ?_) (fun st L z1 z2 => n (z2 ▸ (r.dr st L z1).2.2)) nt e1
    obtain ⟨i, z⟩ := hX a m
    rcases r.fr2 _ z with q | q
    · exact q _ nt e
    · exact n q
  · rcases o1 p hp with ⟨j, z⟩ | z
    · exact r.fr2 (j, p.2) z
    · by_cases m : p.2 ∈ w.M
      · exact .inr m
      · exact .inl fun u n e => z u n (r.fr _ u m n e)
  · rcases sl sd j x e with ⟨e0, es, nx⟩ | k
    · have k := r.sl j x e0
      have km : ∀ a, (j, a) ∈ ow → (j, a) ∈ ow' := fun a m => keep _ m (fun z => nx a z m)
      have kf : ∀ a, (j, a) ∈ ow → ∀ o, H a = some o → H' a = some o := fun a m o eo => fr a o (fun z => nx a z m) (r.notSt m) (r.ntO m eo) eo
      cases x with
      | d x => obtain ⟨v, e, rr⟩ := k; exact ⟨v, es.trans e, rpS sd rr⟩
      | own l => obtain ⟨a, vs, m, e, eh, rr⟩ := k; exact ⟨a, vs, km a m, es.trans e, kf a m _ eh, rpsS sd rr⟩
      | dct t l => obtain ⟨a, vs, m, e, eh, ⟨rr, oo⟩⟩ := k; exact ⟨a, vs, km a m, es.trans e, kf a m _ eh, ⟨rpsS sd rr, oo⟩⟩
      | obj x gs ks l => obtain ⟨a, dx, vs, m, e, ok, eh, hl, rr⟩ := k; exact ⟨a, dx, vs, km a m, es.trans e, ok, kf a m _ eh, hl, rpsS sd rr⟩
      | mu b T => obtain ⟨v, as, e, q, m, n, rr⟩ := k; exact ⟨v, as, es.trans e, q, fun a ha => km a (m a ha), n, rr.mono sd _ _ _ fun a ha o eo => kf a (m a ha) o eo⟩
    · exact k
end

def fIx (f : Str) : List Str → Option Nat
  | [] => none
  | k :: ks => if k = f then some 0 else (fIx f ks).map (· + 1)
theorem fIx_get {f : Str} {v : V} : ∀ {ks : List Str} {vs : List V} {k : Nat}, fIx f ks = some k → vs[k]? = some v → (ks.zip vs).lookup f = some v
  | [], _, _, h, _ => nomatch h
  | a :: ks, [], _, _, e => by cases e
  | a :: ks, u :: vs, k, h, e => by
    unfold fIx at h
    rw [List.zip_cons_cons, List.lookup_cons]
    by_cases q : a = f
    · rw [if_pos q] at h; cases h
      subst q
      simp at e ⊢; exact e
    · rw [if_neg q] at h
      obtain ⟨j, hj, rfl⟩ := Option.map_eq_some_iff.mp h
      have : (f == a) = false := by simp; exact fun z => q z.symm
      rw [this]
      exact fIx_get hj (by simpa using e)
theorem fIx_mem {f : Str} : ∀ {ks : List Str} {k : Nat}, fIx f ks = some k → ks.contains f = true ∧ k < ks.length
  | [], _, h => nomatch h
  | a :: ks, k, h => by
    unfold fIx at h
    by_cases q : a = f
    · rw [if_pos q] at h; cases h
      subst q
      exact ⟨by simp, by simp⟩
    · rw [if_neg q] at h
      obtain ⟨j, hj, rfl⟩ := Option.map_eq_some_iff.mp h
      obtain ⟨h1, h2⟩ := fIx_mem hj
      exact ⟨by simp at h1 ⊢; exact .inr h1, by simpa using h2⟩
theorem fIx_put {f : Str} {v : V} : ∀ {ks : List Str} {vs : List V} {k : Nat}, fIx f ks = some k → vs.length = ks.length → putF f v (ks.zip vs) = ks.zip (vs.set k v)
  | [], _, _, h, _ => nomatch h
  | a :: ks, [], _, _, e => by simp at e
  | a :: ks, u :: vs, k, h, e => by
    unfold fIx at h
    rw [List.zip_cons_cons]
    unfold putF
    by_cases q : a = f
    · rw [if_pos q] at h; cases h
      rw [if_pos q]; rfl
    · rw [if_neg q] at h
      obtain ⟨j, hj, rfl⟩ := Option.map_eq_some_iff.mp h
      rw [if_neg q, fIx_put hj (by simpa using e)]; rfl
abbrev PLoc := PEnv → (Nat → List Nat → Prop) → Prop
def LocAt (H : Hp) (σ : L2.St) (ρ : PEnv) (i : Nat) (p : List Nat) (v : V) : Prop := ∃ b T v0, ρ[i]? = some (some (.mu b T)) ∧ σ[i]? = some (some v0) ∧ AtV H p T v0 v
def SimLc (N : Cn) (t : TE) (l : PLoc) : Prop := ∀ w H0 B, AdW N w H0 B → ∀ ow H σ ρ Q Q', Rel N.K N.c w H0 B ow H σ ρ → l ρ Q' → (∀ i p v H', Rel N.K N.c w H0 B ow H' σ ρ → Ex w.S H H' → LocAt H' σ ρ i p v → Q' i p → Q v H') → t σ H Q
theorem AtV.app {H : Hp} {v1 v2 : V} {T1 : Mu} {q : List Nat} : ∀ {p : List Nat} {T : Mu} {v : V}, AtV H p T v v1 → T.at p = some T1 → AtV H q T1 v1 v2 → AtV H (p ++ q) T v v2
  | [], T, v, h1, e, h2 => by
    have h1 : v = v1 := h1
    cases e
    subst h1
    exact h2
  | k :: p, .l ts, v, h1, e, h2 => by
    obtain ⟨a, vs, u, t, rfl, ea, eu, et, h⟩ := h1
    simp only [Mu.at, et] at e
    exact ⟨a, vs, u, t, rfl, ea, eu, et, AtV.app h e h2⟩
  | k :: p, .o x ks ts, v, h1, e, h2 => by
    obtain ⟨a, C, dx, vs, u, t, rfl, ea, lv, eu, et, h⟩ := h1
    simp only [Mu.at, et] at e
    exact ⟨a, C, dx, vs, u, t, rfl, ea, lv, eu, et, AtV.app h e h2⟩
  | _ :: _, .d _, _, h1, _, _ => h1.elim
  | _ :: _, .h _, _, h1, _, _ => h1.elim
section
variable {N : Cn} {w : Pw} {H0 B H H' : Hp} {ow ow' : Ow} {σ : L2.St} {ρ : PEnv} {i : Nat} {p : List Nat} {v : V} {b : Bool} {T T1 : Mu}
theorem Rel.loc (r : Rel N.K N.c w H0 B ow H σ ρ) (e : ρ[i]? = some (some (.mu b T))) (ea : T.at p = some T1) (l : LocAt H σ ρ i p v) : ∃ v0 xs as1 ys, σ[i]? = some (some v0) ∧ (b = true → w.par i = some v0) ∧ (∀ a ∈ xs ++ as1 ++ ys, (i, a) ∈ ow) ∧ (xs ++ as1 ++ ys).Nodup ∧ RpM N.K N.c w.st H (dh w ow H) v T1 as1 ∧
    ∀ H' G' T1' as1', (∀ a ∈ xs ++ ys, ∀ o, H a = some o → H' a = some o) → Same (dh w ow H) G' → RpM N.K N.c w.st H' G' v T1' as1' → RpM N.K N.c w.st H' G' v0 (Mu.put p T1' T) (xs ++ as1' ++ ys) := by
  obtain ⟨v0, as, es, par, mem, nd, rm⟩ := r.sl i _ e
  obtain ⟨v1, xs, as1, ys, rfl, av, r1, back⟩ := rm.foc ea
  obtain ⟨b', T', v0', e', es', av'⟩ := l
  rw [e] at e'; cases e'
  rw [es] at es'; cases es'
  obtain rfl := av.det av'
  exact ⟨v0, xs, as1, ys, es, par, mem, nd, r1, back⟩
theorem LocAt.ex (r : Rel N.K N.c w H0 B ow H σ ρ) (x : Ex w.S H H') (l : LocAt H σ ρ i p v) : LocAt H' σ ρ i p v := by
  obtain ⟨b, T, v0, e, es, av⟩ := l
  obtain ⟨v0', as, es', par, mem, nd, rm⟩ := r.sl i _ e
  rw [es] at es'; cases es'
  exact ⟨b, T, v0, e, es, av.mono rm fun a ha o eo => x.1 a o (r.notSt (mem a ha)) (r.ntO (mem a ha) eo) eo⟩
def plVar (i : Nat) : PLoc := fun ρ Q => ∃ b T, ρ[i]? = some (some (.mu b T)) ∧ Q i []
def plFld (l : PLoc) (f : Str) : PLoc := fun ρ Q => l ρ fun i p => ∃ b T x ks ts k, ρ[i]? = some (some (.mu b T)) ∧ T.at p = some (.o x ks ts) ∧ fIx f ks = some k ∧ Q i (p ++ [k])
def plIx (l : PLoc) (e : PEx) : PLoc := fun ρ Q => l ρ fun i p => e ρ fun d => ∃ n b T ts k, d = .int n ∧ ρ[i]? = some (some (.mu b T)) ∧ T.at p = some (.l ts) ∧ ixN ts.length n = some k ∧ Q i (p ++ [k])
theorem sim_lVar (i : Nat) : SimLc N (tVar i) (plVar i) := by
  intro w H0 B aw ow H σ ρ Q Q' r ⟨b, T, e, q⟩ k
  obtain ⟨v, as, es, _⟩ := r.sl i _ e
  exact ⟨v, es, k i [] v H r (r.exOf (Same.refl _)) ⟨b, T, v, e, es, rfl⟩ q⟩
theorem sim_lFld {t : TE} {l : PLoc} {f : Str} (h : SimLc N t l) : SimLc N (tFld N.K t f) (plFld l f) := by
  intro w H0 B aw ow H σ ρ Q Q' r z k
  refine h w H0 B aw ow H σ ρ _ _ r z fun i p v H1 r1 x1 l1 ⟨b, T, x, ks, ts, n, e, ea, ef, q⟩ => ?_
  obtain ⟨v0, xs, as1, ys, es, par, mem, nd, rm, back⟩ := r1.loc e ea l1
  cases rm with
  | o ok eo hl rs =>
    rename_i a dx vs as
    obtain ⟨hc, lt⟩ := fIx_mem ef
    have lv := rs.len
    have eu := List.getElem?_eq_getElem (show n < vs.length by omega)
    have et := List.getElem?_eq_getElem (show n < ts.length by omega)
    obtain ⟨b', T', v0', e', es', av'⟩ := l1
    rw [e] at e'; cases e'
    refine z_fld ok eo (fIx_get ef eu) hc (k i (p ++ [n]) _ H1 r1 x1 ⟨b, T, v0', e, es', av'.app ea ⟨a, _, dx, vs, _, _, rfl, eo, by omega, eu, et, rfl⟩⟩ q)
def pRd (l : PLoc) : PEx := fun ρ Q => l ρ fun i p => ∃ b T x, ρ[i]? = some (some (.mu b T)) ∧ T.at p = some (.d x) ∧ Q x
theorem sim_rd {t : TE} {l : PLoc} (h : SimLc N t l) : SimE N t (pRd l) := by
  intro w H0 B aw ow H σ ρ Q Q' r z k
  refine h w H0 B aw ow H σ ρ _ _ r z fun i p v H1 r1 x1 l1 ⟨b, T, x, e, ea, q⟩ => ?_
  obtain ⟨v0, xs, as1, ys, es, par, mem, nd, rm, back⟩ := r1.loc e ea l1
  cases rm with
  | d rr => exact k v x H1 r1 x1 rr q
mutual
def Da.nl (L : Bool) (cl : List Str) : Da → Bool
  | .tup l => Da.nls L cl l
  | .lst l => !L && Da.nls L cl l
  | .ins x _ l => !cl.contains x && Da.nls L cl l
  | _ => true
def Da.nls (L : Bool) (cl : List Str) : List Da → Bool
  | [] => true
  | d :: ds => d.nl L cl && Da.nls L cl ds
end
mutual
def Mu.inC (L : Bool) (cl : List Str) : Mu → Bool
  | .d _ => true
  | .l ts => L && Mu.inCs L cl ts
  | .o x _ ts => cl.contains x && Mu.inCs L cl ts
  | .h _ => true
def Mu.inCs (L : Bool) (cl : List Str) : List Mu → Bool
  | [] => true
  | t :: ts => t.inC L cl && Mu.inCs L cl ts
end
def Knd (c : CEnv) (L : Bool) (cl : List Str) (H : Hp) (a : Addr) : Prop := (L = true ∧ ∃ vs, H a = some (.lst vs)) ∨ ∃ x dx fs, cl.contains x = true ∧ c.all x ∧ H a = some (.ins (c.cls x) dx fs)
section
variable {K : PySem.W.Frag} {c : CEnv} {S : Option Addr} {H G : Hp} {L : Bool} {cl : List Str} {X1 X2 : List Addr}
mutual
theorem RpM.kinds : ∀ (T : Mu) (v : V) (as : List Addr), T.inC L cl = true → RpM K c S H G v T as → ∀ a ∈ as, Knd c L cl H a
  | .d x, _, _, _, h => by cases h; intro a ha; cases ha
  | .l ts, _, _, f, h => by
    have f : (L && Mu.inCs L cl ts) = true := f
    rw [Bool.and_eq_true] at f
    cases h with
    | l e r =>
      intro a ha
      rcases List.mem_cons.mp ha with rfl | ha
      · exact .inl ⟨f.1, _, e⟩
      · exact RpMs.kinds ts _ _ f.2 r a ha
  | .o x ks ts, _, _, f, h => by
    have f : (cl.contains x && Mu.inCs L cl ts) = true := f
    rw [Bool.and_eq_true] at f
    cases h with
    | o ok e hl r =>
      intro a ha
      rcases List.mem_cons.mp ha with rfl | ha
      · exact .inr ⟨x, _, _, f.1, ok.al, e⟩
      · exact RpMs.kinds ts _ _ f.2 r a ha
  | .h _, _, _, _, h => by cases h; intro a ha; cases ha
theorem RpMs.kinds : ∀ (ts : List Mu) (vs : List V) (as : List Addr), Mu.inCs L cl ts = true → RpMs K c S H G vs ts as → ∀ a ∈ as, Knd c L cl H a
  | [], _, _, _, h => by cases h; intro a ha; cases ha
  | t :: ts, _, _, f, h => by
    have f : (t.inC L cl && Mu.inCs L cl ts) = true := f
    rw [Bool.and_eq_true] at f
    cases h with
    | cons r1 r2 =>
      intro a ha
      rcases List.mem_append.mp ha with ha | ha
      · exact RpM.kinds t _ _ f.1 r1 a ha
      · exact RpMs.kinds ts _ _ f.2 r2 a ha
end
theorem hid_two {a : Addr} {o : HO} (hX : ∀ a ∈ X2, a ∉ X1 → Knd c L cl H a) (e : hid H X1 a = some o) (n : ¬ Knd c L cl H a) : hid H X2 a = some o := by
  obtain ⟨m1, e, nt⟩ := hid_some e
  exact hid_lk (fun m => n (hX a m m1)) e nt
mutual
theorem Rp.hideM (hX : ∀ a ∈ X2, a ∉ X1 → Knd c L cl H a) : ∀ (d : Da) (v : V), d.nl L cl = true → Rp K c S (hid H X1) v d → Rp K c S (hid H X2) v d
  | .non, _, _, h => by cases h; exact .non
  | .st, _, _, h => by cases h with | st e => exact .st e
  | .bl b, _, _, h => by cases h; exact .bl b
  | .int i, _, _, h => by cases h; exact .int i
  | .str x, _, _, h => by cases h; exact .str x
  | .ty n, _, _, h => by cases h; exact .ty n
  | .tup ds, _, f, h => by
    cases h with
    | tup hs ha =>
      refine .tup ?_ (RpA.hideM hX ds _ f ha)
      rcases hs with hs | ⟨hs, hom⟩
      · refine .inl (hid_two hX hs fun k => ?_)
        have e := hid_le _ _ hs
        rcases k with ⟨_, _, k⟩ | ⟨_, _, _, _, _, k⟩ <;> (rw [e] at k; cases k)
      · refine .inr ⟨?_, hom⟩
        rcases hs with hs | hs
        · rcases hs with hs | ⟨o, hs⟩
          · refine .inl (.inl (hid_two hX hs fun k => ?_))
            have e := hid_le _ _ hs
            rcases k with ⟨_, _, k⟩ | ⟨_, _, _, _, _, k⟩ <;> (rw [e] at k; cases k)
          · refine .inl (.inr ⟨o, hid_two hX hs fun k => ?_⟩)
            have e := hid_le _ _ hs
            rcases k with ⟨_, _, k⟩ | ⟨_, _, _, _, _, k⟩ <;> (rw [e] at k; cases k)
        · exact .inr hs
  | .lst ds, _, f, h => by
    have f : (!L && Da.nls L cl ds) = true := f
    rw [Bool.and_eq_true] at f
    cases h with
    | lst hs ha =>
      refine .lst (hid_two hX hs fun k => ?_) (RpA.hideM hX ds _ f.2 ha)
      have e := hid_le _ _ hs
      rcases k with ⟨z, _, k⟩ | ⟨_, _, _, _, _, k⟩
      · rw [z] at f; exact absurd f.1 (by decide)
      · rw [e] at k; cases k
  | .ins x ks ds, _, f, h => by
    have f : (!cl.contains x && Da.nls L cl ds) = true := f
    rw [Bool.and_eq_true] at f
    cases h with
    | ins ok hs hl ha =>
      refine .ins ok (hid_two hX hs fun k => ?_) hl (RpA.hideM hX ds _ f.2 ha)
      have e := hid_le _ _ hs
      rcases k with ⟨_, _, k⟩ | ⟨y, _, _, hy, al, k⟩
      · rw [e] at k; cases k
      · rw [e] at k
        injection k with k
        injection k with kc _ _
        have := ok.inj y al kc
        subst this
        rw [hy] at f; exact absurd f.1 (by decide)
theorem RpA.hideM (hX : ∀ a ∈ X2, a ∉ X1 → Knd c L cl H a) : ∀ (ds : List Da) (vs : List V), Da.nls L cl ds = true → RpA K c S (hid H X1) vs ds → RpA K c S (hid H X2) vs ds
  | [], _, _, h => by cases h; exact .nil
  | d :: ds, _, f, h => by
    have f : (d.nl L cl && Da.nls L cl ds) = true := f
    rw [Bool.and_eq_true] at f
    cases h with | cons h1 h2 => exact .cons (Rp.hideM hX d _ f.1 h1) (RpA.hideM hX ds _ f.2 h2)
end
end
theorem Rel.see (r : Rel N.K N.c w H0 B ow H σ ρ) (e : ρ[i]? = some (some (.mu b T))) (f : T.full = true) : ∃ as : List Addr, (∀ a ∈ as, (i, a) ∈ ow) ∧ (∀ L cl, T.inC L cl = true → ∀ a ∈ as, Knd N.c L cl H a) ∧ Rel N.K N.c w H0 B (ow.filter fun p => decide (p.2 ∉ as)) H σ (ρ.set i (some (.d T.da))) := by
  obtain ⟨v0, as, es, par, mem, nd, rm⟩ := r.sl i _ e
  have sub : ∀ p ∈ ow.filter (fun p => decide (p.2 ∉ as)), p ∈ ow := fun p hp => (List.mem_filter.mp hp).1
  have r0 : Rel N.K N.c w H0 B ow H σ (ρ.set i none) := ⟨r.occ, r.dr, r.nd, r.inj, r.fr, r.fr2, by rw [List.length_set]; exact r.len, fun j x ej => by
    rw [getElem?_set'] at ej
    by_cases q : i = j
    · rw [if_pos q] at ej; split at ej <;> cases ej
    · rw [if_neg q] at ej; exact r.sl j x ej, r.bs, r.tb⟩
  have s : Same (dh w ow H) (dh w (ow.filter (fun p => decide (p.2 ∉ as))) H) := dh_sub sub
  have r1 : Rel N.K N.c w H0 B (ow.filter (fun p => decide (p.2 ∉ as))) H σ (ρ.set i none) := r0.sub sub fun j x ej => by
    have k := r0.sl j x ej
    have ne : i ≠ j := fun q => by subst q; rw [getElem?_set', if_pos rfl] at ej; split at ej <;> cases ej
    have mm : ∀ {b : Addr}, (j, b) ∈ ow → (j, b) ∈ ow.filter (fun p => decide (p.2 ∉ as)) := fun {b} hb => List.mem_filter.mpr ⟨hb, decide_eq_true fun z => by
      have := r.inj _ hb _ (mem b z) rfl
      injection this with z1 _
      exact ne z1.symm⟩
    cases x with
    | d x => obtain ⟨v, e, rr⟩ := k; exact ⟨v, e, rpS s rr⟩
    | own l => obtain ⟨b, vs, m, e, eh, rr⟩ := k; exact ⟨b, vs, mm m, e, eh, rpsS s rr⟩
    | dct t l => obtain ⟨b, vs, m, e, eh, ⟨rr, oo⟩⟩ := k; exact ⟨b, vs, mm m, e, eh, ⟨rpsS s rr, oo⟩⟩
    | obj x gs ks l => obtain ⟨b, dx, vs, m, e, ok, eh, hl, rr⟩ := k; exact ⟨b, dx, vs, mm m, e, ok, eh, hl, rpsS s rr⟩
    | mu b T => obtain ⟨v, as', e, p, m, n, rr⟩ := k; exact ⟨v, as', e, p, fun a ha => mm (m a ha), n, rr.mono s _ _ _ fun _ _ _ eo => eo⟩
  have nin : ∀ a ∈ as, a ∉ hl w (ow.filter (fun p => decide (p.2 ∉ as))) := fun a ha h => by
    rcases List.mem_append.mp h with h | h
    · obtain ⟨p, hp, e⟩ := List.mem_map.mp h
      have h2 := of_decide_eq_true (List.mem_filter.mp hp).2
      exact h2 (by rw [e]; exact ha)
    · exact (r.nd _ (mem a ha)).2 h
  refine ⟨as, mem, fun L cl z => RpM.kinds T v0 as z rm, r1.occ, r1.dr, r1.nd, r1.inj, r1.fr, r1.fr2, by rw [List.length_set]; exact r.len, fun j x ej => ?_, r1.bs, r1.tb⟩
  rw [getElem?_set'] at ej
  by_cases q : i = j
  · subst q
    rw [if_pos rfl, if_pos (get_lt e)] at ej
    cases ej
    exact ⟨v0, es, RpM.view s T v0 as f (fun a ha o eo => hid_lk (nin a ha) eo (r.ntO (mem a ha) eo)) rm⟩
  · rw [if_neg q] at ej
    exact r1.sl j x (by rw [getElem?_set', if_neg q]; exact ej)
theorem see_hX {as : List Addr} {L : Bool} {cl : List Str} (r : Rel N.K N.c w H0 B ow H σ ρ) (x : Ex w.S H H') (mem : ∀ a ∈ as, (i, a) ∈ ow) (kn : ∀ a ∈ as, Knd N.c L cl H a) : ∀ a ∈ hl w ow, a ∉ hl w (ow.filter fun p => decide (p.2 ∉ as)) → Knd N.c L cl H' a := fun a h n => by
  have ha : a ∈ as := by
    rcases List.mem_append.mp h with h | h
    · obtain ⟨p, hp, rfl⟩ := List.mem_map.mp h
      by_cases q : p.2 ∈ as
      · exact q
      · exact absurd (List.mem_append_left _ (List.mem_map_of_mem (f := (·.2)) (List.mem_filter.mpr ⟨hp, decide_eq_true q⟩))) n
    · exact absurd (List.mem_append_right _ h) n
  have up : ∀ o, H a = some o → H' a = some o := fun o e => x.1 a o (r.notSt (mem a ha)) (r.ntO (mem a ha) e) e
  rcases kn a ha with ⟨z, vs, e⟩ | ⟨y, dx, fs, hy, al, e⟩
  · exact .inl ⟨z, vs, up _ e⟩
  · exact .inr ⟨y, dx, fs, hy, al, up _ e⟩
def pSee (i : Nat) (p : PEx) : PEx := fun ρ Q => ∃ b T L cl, ρ[i]? = some (some (.mu b T)) ∧ T.full = true ∧ T.inC L cl = true ∧ p (ρ.set i (some (.d T.da))) fun d => d.nl L cl = true ∧ Q d
theorem sim_see {t : TE} {p : PEx} {i : Nat} (h : SimE ⟨N.K, N.c, W0, fun _ _ => False⟩ t p) : SimE N t (pSee i p) := by
  intro w H0 B aw ow H σ ρ Q Q' r ⟨b, T, L, cl, e, f, ic, z⟩ k
  obtain ⟨as, mem, kn, r2⟩ := Rel.see (N := N) r e f
  refine h w H0 B (fun _ _ _ _ _ _ f => f.elim) _ H σ _ _ _ r2 z fun v d H1 r1 x1 h1 ⟨f, q1⟩ => ?_
  exact k v d H1 (r.ex x1 r1.tb) x1 (Rp.hideM (see_hX r x1 mem (kn L cl ic)) d v f h1) q1
def pOfF (p : PAr) : PEx := fun ρ Q => p ρ fun l => Q (.lst l)
theorem Rel.wrM {a : Addr} {o : HO} {T1' : Mu} {as1' : List Addr} {xs as1 ys : List Addr} {v0 : V} (r : Rel N.K N.c w H0 B ow H σ ρ) (e : ρ[i]? = some (some (.mu b T))) (es : σ[i]? = some (some v0)) (par : b = true → w.par i = some v0) (mem : ∀ a ∈ xs ++ as1 ++ ys, (i, a) ∈ ow) (nd : (xs ++ as1 ++ ys).Nodup)
    (back : ∀ H' G' T1' as1', (∀ a ∈ xs ++ ys, ∀ o, H a = some o → H' a = some o) → Same (dh w ow H) G' → RpM N.K N.c w.st H' G' (.ref a) T1' as1' → RpM N.K N.c w.st H' G' v0 (Mu.put p T1' T) (xs ++ as1' ++ ys))
    (ha : a ∈ as1) (sub : ∀ c ∈ as1', c ∈ as1) (nd' : as1'.Nodup) (rm : RpM N.K N.c w.st (upd H a o) (dh w ow H) (.ref a) T1' as1') (np : Pl o := by exact ⟨fun _ z => (nomatch z), fun _ z => (nomatch z)⟩) : Rel N.K N.c w H0 B ow (upd H a o) σ (ρ.set i (some (.mu b (Mu.put p T1' T)))) := by
  have hin : (i, a) ∈ ow := mem a (by simp [ha])
  have hh : a ∈ hl w ow := List.mem_append_left _ (List.mem_map_of_mem (f := (·.2)) hin)
  have ed : dh w ow (upd H a o) = dh w ow H := hid_put hh
  have nx : ∀ c, c ∈ xs ++ ys → c ≠ a := fun c hc z => by
    subst z
    rw [List.nodup_append, List.nodup_append] at nd
    obtain ⟨⟨_, _, d1⟩, _, d2⟩ := nd
    rcases List.mem_append.mp hc with m | m
    · exact d1 _ m _ ha rfl
    · exact d2 _ (List.mem_append_right _ ha) _ m rfl
  refine (r.chg (X := [a]) (ow' := ow) (fun c u n _ _ eu => ?_) (fun c hc => ?_) (fun c hc m => ?_) (fun st L z => Draw.put ((r.nd _ hin).1 st L z).1 ((r.nd _ hin).1 st L z).2 (r.dr st L z).1) (fun q hq => .inl ⟨q.1, hq⟩) r.inj (fun q hq _ => hq) (by rw [List.length_set]; exact r.len) (fun sd j x ej => ?_) (by obtain ⟨u, e, n⟩ := r.plO hin; exact tabs_put e n r.tb)).1
  · exact lk_ne (fun z => n (by rw [z]; exact List.mem_singleton.mpr rfl)) eu
  · obtain rfl := List.mem_singleton.mp hc; exact ⟨i, hin⟩
  · rcases m with m | m
    · rw [List.mem_singleton.mp m]; exact ⟨o, upd_same, np⟩
    · obtain ⟨u, eu, n⟩ := r.plO hc; exact (m u n.1 eu).elim
  · rw [getElem?_set'] at ej
    by_cases q : i = j
    · subst q
      rw [if_pos rfl, if_pos (get_lt e)] at ej
      cases ej
      refine .inr ⟨v0, xs ++ as1' ++ ys, es, par, fun c hc => ?_, ?_, ?_⟩
      · refine mem c ?_
        simp only [List.mem_append] at hc ⊢
        rcases hc with (m | m) | m
        · exact .inl (.inl m)
        · exact .inl (.inr (sub c m))
        · exact .inr m
      · rw [List.nodup_append, List.nodup_append] at nd ⊢
        obtain ⟨⟨n1, _, d1⟩, n2, d2⟩ := nd
        refine ⟨⟨n1, nd', fun x hx y hy => d1 x hx y (sub y hy)⟩, n2, fun x hx y hy => ?_⟩
        rcases List.mem_append.mp hx with m | m
        · exact d2 x (List.mem_append_left _ m) y hy
        · exact d2 x (List.mem_append_right _ (sub x m)) y hy
      · rw [ed]
        exact back _ _ _ _ (fun c hc u eu => lk_ne (nx c hc) eu) (Same.refl _) rm
    · rw [if_neg q] at ej
      refine .inl ⟨ej, rfl, fun c hc m => ?_⟩
      obtain rfl := List.mem_singleton.mp hc
      have := r.inj _ m _ hin rfl
      injection this with z _
      exact q z.symm
end

abbrev QEx := PEnv → (Da → PEnv → Prop) → Prop
abbrev QTe := PEnv → (Bool → PEnv → Prop) → Prop
abbrev QAr := PEnv → (List Da → PEnv → Prop) → Prop
section
variable (N : Cn)
def SimQ (t : TE) (q : QEx) : Prop := ∀ w H0 B, AdW N w H0 B → ∀ ow H σ ρ Q Q', Rel N.K N.c w H0 B ow H σ ρ → q ρ Q' → (∀ v d ow' H' ρ', Rel N.K N.c w H0 B ow' H' σ ρ' → Rp N.K N.c w.st (dh w ow' H') v d → Q' d ρ' → Q v H') → t σ H Q
def SimQT (t : TT) (q : QTe) : Prop := ∀ w H0 B, AdW N w H0 B → ∀ ow H σ ρ Q Q', Rel N.K N.c w H0 B ow H σ ρ → q ρ Q' → (∀ b ow' H' ρ', Rel N.K N.c w H0 B ow' H' σ ρ' → Q' b ρ' → Q b H') → t σ H Q
end
section
variable {N : Cn} {w : Pw} {H0 B H H' : Hp} {ow ow' : Ow} {σ : L2.St} {ρ : PEnv}
theorem Rel.rb (r : Rel N.K N.c w H0 B ow H σ ρ) : Rel N.K N.c w H0 (dh w ow H) ow H σ ρ := ⟨r.occ, r.dr, r.nd, r.inj, r.fr, r.fr2, r.len, r.sl, Same.refl _, r.tb⟩
def qP (p : PEx) : QEx := fun ρ Q => p ρ fun d => Q d ρ
def qPT (p : PTe) : QTe := fun ρ Q => p ρ fun b => Q b ρ
theorem sim_qP {t : TE} {p : PEx} (h : SimE N t p) : SimQ N t (qP p) := fun w H0 B aw ow H σ ρ Q Q' r z k => h w H0 B aw ow H σ ρ _ _ r z fun v d H1 r1 _ h1 q1 => k v d ow H1 ρ r1 h1 q1
def qNil : QAr := fun ρ Q => Q [] ρ
def qCons (a : QEx) (t : QAr) : QAr := fun ρ Q => a ρ fun x ρ1 => t ρ1 fun xs ρ2 => Q (x :: xs) ρ2
def qLst (t : QAr) : QEx := fun ρ Q => t ρ fun ds ρ1 => ds.length ≤ 100000 ∧ Q (.lst ds) ρ1
def qTup (t : QAr) : QEx := fun ρ Q => t ρ fun ds ρ1 => ds.length ≤ 100000 ∧ Q (.tup ds) ρ1
def qOp (r : PR2) (a b : QEx) : QEx := fun ρ Q => a ρ fun x ρ1 => b ρ1 fun y ρ2 => r x y fun d => Q d ρ2
def qUn (r : PR1) (a : QEx) : QEx := fun ρ Q => a ρ fun x ρ1 => r x fun d => Q d ρ1
def qCB (r : PRl) (a : QAr) : QEx := fun ρ Q => a ρ fun xs ρ1 => r xs fun d => Q d ρ1
theorem sim_qOp {r : R2} {q : PR2} {a b : TE} {qa qb : QEx} (hr : SimR N r q) (ha : SimQ N a qa) (hb : SimQ N b qb) : SimQ N (tOp r a b) (qOp q qa qb) := by
  intro w H0 B aw ow H σ ρ Q Q' rr h k
  refine ha w H0 B aw ow H σ ρ _ _ rr h fun x dx ow1 H1 ρ1 r1 h1 q1 => ?_
  refine hb w H0 _ (aw.re r1.bs) ow1 H1 σ ρ1 _ _ r1.rb q1 fun y dy ow2 H2 ρ2 r2 h2 q2 => ?_
  exact hr w H0 B ow2 H2 σ ρ2 x y dx dy Q (fun d => Q' d ρ2) (r2.re r1.bs) (rpS r2.bs h1) h2 q2 fun v d H3 r3 _ h3 q3 => k v d ow2 H3 ρ2 r3 h3 q3
def qTest (p : QEx) : QTe := fun ρ Q => p ρ fun d ρ1 => ∃ b, d = .bl b ∧ Q b ρ1
def qTru (p : QEx) : QTe := fun ρ Q => p ρ fun d ρ1 => ∃ b, truD d b ∧ Q b ρ1
def qAnd (t u : QTe) : QTe := fun ρ Q => t ρ fun b ρ1 => if b = true then u ρ1 Q else Q false ρ1
def qOr (t u : QTe) : QTe := fun ρ Q => t ρ fun b ρ1 => if b = true then Q true ρ1 else u ρ1 Q
def qNot (t : QTe) : QTe := fun ρ Q => t ρ fun b ρ1 => Q (!b) ρ1
def qIf (t : QTe) (a b : QEx) : QEx := fun ρ Q => t ρ fun k ρ1 => if k = true then a ρ1 Q else b ρ1 Q
theorem sim_qTest {t : TE} {p : QEx} (h : SimQ N t p) : SimQT N (tTest t) (qTest p) := by
  intro w H0 B aw ow H σ ρ Q Q' r q k
  refine h w H0 B aw ow H σ ρ _ _ r q fun v d ow1 H1 ρ1 r1 h1 ⟨b, e, q1⟩ => ?_
  subst e; cases h1
  exact ⟨b, rfl, k b ow1 H1 ρ1 r1 q1⟩
def qCal (ps : PSp) (t : QAr) : QEx := fun ρ Q => t ρ fun ds ρ1 => ps ds (fun d => Q d ρ1) fun _ => False
def qCalS (Wp : WP) (ps : PSp) (t : QAr) : QEx := fun ρ Q => t ρ fun ds ρ1 => ps ds (fun d => Q d ρ1) fun x => Wp x ρ1
def qMk (x : Str) (gs : List Str) (ps : PSi) (t : QAr) : QEx := fun ρ Q => t ρ fun ds ρ1 => ps ds (fun l => Q (.ins x gs l) ρ1) fun _ => False
def qAsg (e : QEx) (g : PTg) : PSt := fun D ρ => e ρ fun d ρ1 => g d ρ1 D.nx
def qDrop (e : QEx) : PSt := fun D ρ => e ρ fun _ ρ1 => D.nx ρ1
def qRet (e : QEx) : PSt := fun D ρ => e ρ fun d ρ1 => D.rm (.d d) ρ1
def qRetN : PSt := fun D ρ => D.rm (.d .non) ρ
def qIfS (t : QTe) (p q : PSt) : PSt := fun D ρ => t ρ fun b ρ1 => if b = true then p D ρ1 else q D ρ1
theorem sim_qAsg {e : TE} {g : TG} {sl : List Nat} {qe : QEx} {pg : PTg} (h : SimQ N e qe) (hg : SimG N g sl pg) : SimS N (tAsg e g) (qAsg qe pg) := by
  intro w H0 B aw ow H σ ρ D D' a r z
  refine h w H0 B aw ow H σ ρ _ _ r z fun v d ow1 H1 ρ1 r1 h1 q1 => ?_
  exact hg w H0 B ow1 H1 σ ρ1 v d _ _ r1 h1 q1 fun σ' ρ' r' _ q' => a.nx ow1 H1 σ' ρ' r' q'
theorem sim_qDrop {e : TE} {qe : QEx} (h : SimQ N e qe) : SimS N (tDrop e) (qDrop qe) := fun w H0 B aw ow H σ ρ D D' a r z => h w H0 B aw ow H σ ρ _ _ r z fun v d ow1 H1 ρ1 r1 _ q1 => a.nx ow1 H1 σ ρ1 r1 q1
theorem sim_qRet {e : TE} {qe : QEx} (h : SimQ N e qe) : SimS N (tRet e) (qRet qe) := fun w H0 B aw ow H σ ρ D D' a r z => h w H0 B aw ow H σ ρ _ _ r z fun v d ow1 H1 ρ1 r1 h1 q1 => a.rm ow1 H1 σ ρ1 v (.d d) r1 h1 q1
theorem sim_qIfS {t : TT} {p q : TS} {qt : QTe} {pp pq : PSt} (h : SimQT N t qt) (hp : SimS N p pp) (hq : SimS N q pq) : SimS N (tIfS t p q) (qIfS qt pp pq) := by
  intro w H0 B aw ow H σ ρ D D' a r z
  refine h w H0 B aw ow H σ ρ _ _ r z fun b ow1 H1 ρ1 r1 q1 => ?_
  cases b with
  | true => exact z_iteT (hp w H0 B aw ow1 H1 σ ρ1 D D' a r1 (by simpa using q1))
  | false => exact z_iteF (hq w H0 B aw ow1 H1 σ ρ1 D D' a r1 (by simpa using q1))
def qSetF (l : PLoc) (f : Str) (e : QEx) : PSt := fun D ρ => e ρ fun d ρ1 => l ρ1 fun i p => ∃ b T x ks ts k, ρ1[i]? = some (some (.mu b T)) ∧ T.at p = some (.o x ks ts) ∧ fIx f ks = some k ∧ ks.length < 1000 ∧ D.nx (ρ1.set i (some (.mu b (Mu.put p (.o x ks (ts.set k (.d d))) T))))
theorem sim_qSetF {f : Str} {tl te : TE} {l : PLoc} {qe : QEx} (h : SimLc N tl l) (he : SimQ N te qe) : SimS N (sFld N.K tl te f) (qSetF l f qe) := by
  intro w H0 B aw ow H σ ρ D D' a r z
  refine he w H0 B aw ow H σ ρ _ _ r z fun y d ow1 H1 ρ1 r1 h1 q1 => ?_
  refine h w H0 _ (aw.re r1.bs) ow1 H1 σ ρ1 _ _ r1.rb q1 fun i p v H2 r2 x2 l2 ⟨b, T, x, ks, ts, k, e, ea, ef, hk, q⟩ => ?_
  have h2 : Rp N.K N.c w.st (dh w ow1 H2) y d := rpS r2.bs h1
  have r2 := r2.re r1.bs
  obtain ⟨v0, xs, as1, ys, es, par, mem, nd, rm, back⟩ := r2.loc e ea l2
  cases rm with
  | o ok eo hl rs =>
    rename_i a0 dx vs as
    obtain ⟨hc, lt⟩ := fIx_mem ef
    have lv := rs.len
    have nd1 : (a0 :: as).Nodup := by
      rw [List.nodup_append, List.nodup_append] at nd
      exact nd.1.2.1
    obtain ⟨u, xs1, as2, ys1, eu, rfl, ru, bk⟩ := rs.split (List.getElem?_eq_getElem (show k < ts.length by omega))
    refine z_set ok eo hc (by rw [zip_len (by omega)]; exact hk) ?_
    rw [fIx_put ef (by omega)]
    have na : ∀ c ∈ xs1 ++ as2 ++ ys1, c ≠ a0 := fun c hc z => (List.nodup_cons.mp nd1).1 (z ▸ hc)
    refine a.nx _ _ _ _ (r2.wrM (T1' := .o x ks (ts.set k (.d d))) (as1' := a0 :: (xs1 ++ [] ++ ys1)) e es par mem nd back (List.mem_cons_self ..) (fun c hc => ?_) ?_ (.o ok upd_same (by rw [List.length_set]; exact hl) (bk _ _ y _ _ (fun c hc o eo => lk_ne (na c ?_) eo) (Same.refl _) (.d h2)))) q
    · rcases List.mem_cons.mp hc with rfl | hc
      · exact List.mem_cons_self ..
      · refine List.mem_cons_of_mem _ ?_
        simp only [List.mem_append, List.append_nil] at hc ⊢
        rcases hc with m | m
        · exact .inl (.inl m)
        · exact .inr m
    · rw [List.append_nil]
      refine List.Nodup.sublist ?_ nd1
      refine List.Sublist.cons₂ _ ?_
      rw [List.append_assoc]
      exact List.Sublist.append (List.Sublist.refl _) (List.sublist_append_right _ _)
    · simp only [List.mem_append] at hc ⊢
      rcases hc with m | m
      · exact .inl (.inl m)
      · exact .inr m
def qSetI (l : PLoc) (k : PEx) (e : QEx) : PSt := fun D ρ => e ρ fun d ρ1 => l ρ1 fun i p => k ρ1 fun kd => ∃ n b T ts j, kd = .int n ∧ ρ1[i]? = some (some (.mu b T)) ∧ T.at p = some (.l ts) ∧ ixN ts.length n = some j ∧ D.nx (ρ1.set i (some (.mu b (Mu.put p (.l (ts.set j (.d d))) T))))
end

theorem hid_cg {H : Hp} {ps qs : List Addr} (h : ∀ a, a ∈ ps ↔ a ∈ qs) : hid H ps = hid H qs := by
  funext a
  unfold hid
  by_cases m : a ∈ ps
  · rw [if_pos (.inl m), if_pos (.inl ((h a).mp m))]
  · by_cases t : ∃ us, H a = some (.tbl us)
    · rw [if_pos (.inr t), if_pos (.inr t)]
    · rw [if_neg (fun z => z.elim m t), if_neg (fun z => z.elim (fun y => m ((h a).mpr y)) t)]
inductive Am where
  | d (x : Da) | m (i : Nat) (p : List Nat)
abbrev PArM := PEnv → (List Am → Prop) → Prop
abbrev PSm := List Pv → (Pv → List Pv → Prop) → (Str → List Pv → Prop) → Prop
def AmOk (N : Cn) (w : Pw) (ow : Ow) (H : Hp) (σ : L2.St) (ρ : PEnv) (v : V) : Am → Prop
  | .d x => Rp N.K N.c w.st (dh w ow H) v x
  | .m i p => LocAt H σ ρ i p v
def SimAM (N : Cn) (t : TA) (q : PArM) : Prop := ∀ w H0 B, AdW N w H0 B → ∀ ow H σ ρ Q Q', Rel N.K N.c w H0 B ow H σ ρ → q ρ Q' → (∀ vs ams H', Rel N.K N.c w H0 B ow H' σ ρ → Ex w.S H H' → vs.length = ams.length → (∀ (k : Nat) (v : V) (a : Am), vs[k]? = some v → ams[k]? = some a → AmOk N w ow H' σ ρ v a) → Q' ams → Q vs H') → t σ H Q
def pmNil : PArM := fun _ Q => Q []
def pmD (e : PEx) (t : PArM) : PArM := fun ρ Q => e ρ fun x => t ρ fun xs => Q (.d x :: xs)
def pmL (l : PLoc) (t : PArM) : PArM := fun ρ Q => l ρ fun i p => t ρ fun xs => Q (.m i p :: xs)
section
variable {N : Cn} {w : Pw} {H0 B H H' : Hp} {ow ow' : Ow} {σ : L2.St} {ρ : PEnv}
theorem AmOk.ex (r : Rel N.K N.c w H0 B ow H σ ρ) (x : Ex w.S H H') {v : V} {a : Am} (h : AmOk N w ow H σ ρ v a) : AmOk N w ow H' σ ρ v a := by
  cases a with
  | d d => exact rpS (x.dh r) h
  | m i p => exact LocAt.ex r x h
theorem sim_mNil : SimAM N tNil pmNil := fun w H0 B aw ow H σ ρ Q Q' r h k => k [] [] H r (r.exOf (Same.refl _)) rfl (fun _ _ _ e => nomatch e) h
theorem sim_mD {a : TE} {t : TA} {pa : PEx} {pt : PArM} (ha : SimE N a pa) (ht : SimAM N t pt) : SimAM N (tCons a t) (pmD pa pt) := by
  intro w H0 B aw ow H σ ρ Q Q' r h k
  refine ha w H0 B aw ow H σ ρ _ _ r h fun v d H1 r1 s1 h1 q1 => ?_
  refine ht w H0 B aw ow H1 σ ρ _ _ r1 q1 fun vs ams H2 r2 s2 l2 h2 q2 => ?_
  refine k _ _ H2 r2 (Ex.trans s1 s2) (by simp [l2]) (fun n u am e1 e2 => ?_) q2
  cases n with
  | zero => cases e1; cases e2; exact rpS (s2.dh r1) h1
  | succ n => exact h2 n u am e1 e2
end
structure InM (K : PySem.W.Frag) (c : CEnv) (S : Option (Addr × Addr)) (O : List Addr) (ow0 : Ow) (H : Hp) (vs : List V) (args : List Pv) : Prop where
  occ : Occ H (ow0.map (·.2) ++ O)
  dr : ∀ st L, S = some (st, L) → Draw H st L ∧ st ∈ O
  nd : ∀ p ∈ ow0, (∀ st L, S = some (st, L) → p.2 ≠ st ∧ p.2 ≠ L) ∧ p.2 ∉ O
  inj : ∀ p ∈ ow0, ∀ q ∈ ow0, p.2 = q.2 → p = q
  len : vs.length = args.length
  ok : ∀ (j : Nat) (x : Pv), args[j]? = some x → SlotOk K c ⟨S, O, [], none, fun k => vs[k]?⟩ ow0 H (vs.map some) j x
  tb : LamX.Tabs c.tb H
structure OutM (K : PySem.W.Frag) (c : CEnv) (S : Option (Addr × Addr)) (O : List Addr) (ow0 ow1 : Ow) (H H' : Hp) (vs : List V) (outs : List Pv) : Prop where
  fr : ∀ a o, (∀ p ∈ ow0, p.2 ≠ a) → (∀ st L, S = some (st, L) → a ≠ st) → Nt o → H a = some o → H' a = some o
  dr : ∀ st L, S = some (st, L) → Draw H' st L
  oc : ∀ p ∈ ow1, ∃ o, H' p.2 = some o ∧ Pl o
  nw : ∀ p ∈ ow1, (∃ j, (j, p.2) ∈ ow0) ∨ Fre H p.2
  inj : ∀ p ∈ ow1, ∀ q ∈ ow1, p.2 = q.2 → p = q
  sl : ∀ (j : Nat) (T : Mu), outs[j]? = some (.mu true T) → SlotOk K c ⟨S, O, [], none, fun k => vs[k]?⟩ ow1 H' (vs.map some) j (.mu true T)
  tb : LamX.Tabs c.tb H'
def SpSimM (K : PySem.W.Frag) (c : CEnv) (sp : Sp) (ps : PSm) : Prop := ∀ (S : Option (Addr × Addr)) (O : List Addr) (ow0 : Ow) (H : Hp) (vs : List V) (args : List Pv) (Q : VK) (E : XK) (Q' : Pv → List Pv → Prop) (E' : Str → List Pv → Prop),
  InM K c S O ow0 H vs args → ps args Q' E' → (∀ v r outs ow1 H', OutM K c S O ow0 ow1 H H' vs outs → OutOk K c ⟨S, O, [], none, fun k => vs[k]?⟩ ow1 H' v r → Q' r outs → Q v H') → (∀ x outs ow1 H', OutM K c S O ow0 ow1 H H' vs outs → E' x outs → E (.ref (c.cls x)) none H') → sp vs H Q E
def liftM (K : PySem.W.Frag) (c : CEnv) (ps : PSm) : Sp := fun vs H Q E => ∃ (S : Option (Addr × Addr)) (O : List Addr) (ow0 : Ow) (args : List Pv) (Q' : Pv → List Pv → Prop) (E' : Str → List Pv → Prop),
  InM K c S O ow0 H vs args ∧ ps args Q' E' ∧ (∀ v r outs ow1 H', OutM K c S O ow0 ow1 H H' vs outs → OutOk K c ⟨S, O, [], none, fun k => vs[k]?⟩ ow1 H' v r → Q' r outs → Q v H') ∧ (∀ x outs ow1 H', OutM K c S O ow0 ow1 H H' vs outs → E' x outs → E (.ref (c.cls x)) none H')
theorem spSimM_lift {K : PySem.W.Frag} {c : CEnv} {ps : PSm} : SpSimM K c (liftM K c ps) ps := fun S O ow0 H vs args Q E Q' E' a b q e => ⟨S, O, ow0, args, Q', E', a, b, q, e⟩
def outsOf (n : Nat) (ρ : PEnv) : List Pv := (ρ.take n).map fun x => match x with
  | some (.mu true T) => .mu true T
  | _ => .d .non
def startM (n : Nat) (args : List Pv) : PEnv := args.map some ++ List.replicate (n - args.length) none
section
variable {K : PySem.W.Frag} {c : CEnv}
theorem SlotOk.sig {w w' : Pw} {ow : Ow} {H : Hp} {σ σ' : L2.St} {i : Nat} {x : Pv} (es : σ'[i]? = σ[i]?) (h1 : w'.st = w.st) (h2 : w'.O = w.O) (h3 : w'.par = w.par) (h4 : w'.self = w.self) (h : SlotOk K c w ow H σ i x) : SlotOk K c w' ow H σ' i x := by
  have ed : dh w' ow H = dh w ow H := by show hid H (ow.map (·.2) ++ w'.O) = hid H (ow.map (·.2) ++ w.O); rw [h2]
  cases x with
  | d x => obtain ⟨v, e, r⟩ := h; exact ⟨v, es.trans e, by rw [h1, ed]; exact r⟩
  | own l => obtain ⟨a, vs, m, e, eh, r⟩ := h; exact ⟨a, vs, m, es.trans e, eh, by rw [h1, ed]; exact r⟩
  | dct t l => obtain ⟨a, vs, m, e, eh, ⟨r, oo⟩⟩ := h; exact ⟨a, vs, m, es.trans e, eh, ⟨by rw [h1, ed]; exact r, oo⟩⟩
  | obj x gs ks l => obtain ⟨a, dx, vs, m, e, ok, eh, hl, r⟩ := h; exact ⟨a, dx, vs, m, es.trans e, ⟨ok.1, by rw [h4]; exact ok.2⟩, eh, hl, by rw [h1, ed]; exact r⟩
  | mu b T => obtain ⟨v, as, e, p, m, n, r⟩ := h; exact ⟨v, as, es.trans e, by rw [h3]; exact p, m, n, by rw [h1, ed]; exact r⟩
theorem outsOf_get {n j : Nat} {ρ : PEnv} {T : Mu} (h : (outsOf n ρ)[j]? = some (.mu true T)) : ρ[j]? = some (some (.mu true T)) := by
  unfold outsOf at h
  rw [List.getElem?_map] at h
  cases e : (ρ.take n)[j]? with
  | none => rw [e] at h; cases h
  | some x =>
    rw [e] at h
    have e2 : ρ[j]? = some x := by
      rw [List.getElem?_take] at e
      split at e
      · exact e
      · cases e
    rw [e2]
    cases x with
    | none => cases h
    | some y =>
      cases y with
      | mu b T' => cases b with
        | true => cases h; rfl
        | false => cases h
      | _ => cases h
theorem startM_rel {S : Option (Addr × Addr)} {O : List Addr} {ow0 : Ow} {H : Hp} {vs : List V} {args : List Pv} {Nn : List Str} (h : InM K c S O ow0 H vs args) :
    Rel K c ⟨S, O, ow0.map (·.2) ++ (S.map (·.1)).toList, none, fun k => vs[k]?⟩ H (hid H (ow0.map (·.2) ++ O)) ow0 H (L2.start Nn vs) (startM Nn.length args) := by
  refine ⟨h.occ, fun st L e => ?_, h.nd, h.inj, fun a o _ _ e => e, fun p hp => .inr (List.mem_append_left _ (List.mem_map_of_mem (f := (·.2)) hp)), ?_, fun i x e => ?_, Same.refl _, h.tb⟩
  · have e : S = some (st, L) := e
    refine ⟨(h.dr st L e).1, (h.dr st L e).2, ?_⟩
    subst e; simp
  · unfold L2.start startM
    simp [h.len]
  · unfold startM at e
    rw [List.getElem?_append] at e
    split at e
    · rename_i lt
      rw [List.length_map] at lt
      rw [List.getElem?_map] at e
      cases ed : args[i]? with
      | none => rw [ed] at e; cases e
      | some d =>
        rw [ed] at e
        cases e
        refine SlotOk.sig (w := ⟨S, O, [], none, fun k => vs[k]?⟩) (σ := vs.map some) ?_ rfl rfl rfl rfl (h.ok i _ ed)
        unfold L2.start
        rw [List.getElem?_append_left (by rw [List.length_map, h.len]; exact lt)]
    · rw [List.getElem?_replicate] at e
      split at e <;> cases e
theorem memSt {S : Option (Addr × Addr)} {a : Addr} (m : a ∈ (S.map (·.1)).toList) : ∃ st L, S = some (st, L) ∧ a = st := by
  cases S with
  | none => simp at m
  | some z => obtain ⟨st, L⟩ := z; simp at m; exact ⟨st, L, rfl, m⟩
theorem Rel.outM {S : Option (Addr × Addr)} {O : List Addr} {ow0 ow1 : Ow} {H H1 B : Hp} {vs : List V} {args : List Pv} {σ : L2.St} {ρ : PEnv} {n : Nat} (h : InM K c S O ow0 H vs args) (r : Rel K c ⟨S, O, ow0.map (·.2) ++ (S.map (·.1)).toList, none, fun k => vs[k]?⟩ H B ow1 H1 σ ρ) : OutM K c S O ow0 ow1 H H1 vs (outsOf n ρ) := by
  refine ⟨fun a o n1 n2 t e => r.fr a o (fun m => ?_) t e, fun st L e => (r.dr st L e).1, fun p hp => r.occ _ (List.mem_append_left _ (List.mem_map_of_mem (f := (·.2)) hp)), fun p hp => ?_, r.inj, fun j T e => ?_, r.tb⟩
  · rcases List.mem_append.mp m with m | m
    · obtain ⟨p, hp, e⟩ := List.mem_map.mp m
      exact n1 p hp e
    · obtain ⟨st, L, e1, e2⟩ := memSt m
      exact n2 st L e1 e2
  · have z : Fre H p.2 ∨ p.2 ∈ ow0.map (·.2) ++ (S.map (·.1)).toList := r.fr2 p hp
    rcases z with z | z
    · exact .inr z
    · rcases List.mem_append.mp z with m | m
      · obtain ⟨q, hq, e⟩ := List.mem_map.mp m
        exact .inl ⟨q.1, by rw [← e]; exact hq⟩
      · obtain ⟨st, L, e1, e2⟩ := memSt m
        exact absurd e2 ((r.nd p hp).1 st L e1).1
  · have e2 := outsOf_get e
    obtain ⟨v, as, es, par, mem, nd, rm⟩ := r.sl j _ e2
    have pv := par rfl
    refine ⟨v, as, ?_, fun _ => pv, mem, nd, rm⟩
    rw [List.getElem?_map]
    have pv : vs[j]? = some v := pv
    rw [pv]; rfl
theorem outOk_conv {S : Option (Addr × Addr)} {O M : List Addr} {ow1 : Ow} {H1 : Hp} {vs : List V} {v : V} {x : Pv} (h : OutOk K c ⟨S, O, M, none, fun k => vs[k]?⟩ ow1 H1 v x) : OutOk K c ⟨S, O, [], none, fun k => vs[k]?⟩ ow1 H1 v x := by
  cases x <;> exact h
theorem wd_liftM {T : TS} {P : PSt} {Nn : List Str} {n : Nat} {ps : PSm} (hS : SimS ⟨K, c, W0, fun _ _ => False⟩ T P) (hp : ∀ as Q E, ps as Q E → as.length = n ∧ P { nx := fun ρ => Q (.d .non) (outsOf n ρ), rt := fun _ => False, rm := fun r ρ => Q r (outsOf n ρ) } (startM Nn.length as)) : Wd T Nn n (liftM K c ps) := by
  rintro vs H Q E ⟨S, O, ow0, args, Q', E', hin, p, q, _⟩
  obtain ⟨hl, z⟩ := hp args Q' E' p
  refine ⟨hin.len.trans hl, ?_⟩
  refine hS ⟨S, O, ow0.map (·.2) ++ (S.map (·.1)).toList, none, fun k => vs[k]?⟩ H _ (fun _ _ _ _ _ _ f => f.elim) ow0 H _ _ _ { nx := fun ρ => Q' (.d .non) (outsOf n ρ), rt := fun _ => False, rm := fun r ρ => Q' r (outsOf n ρ) } ⟨fun ow H1 σ ρ r1 q1 => q _ (.d .non) _ ow H1 (r1.outM hin) Rp.non q1, fun _ _ _ _ _ f => f.elim, fun _ _ _ _ _ f => f.elim, fun _ _ _ _ _ _ _ _ f => f.elim, fun ow H1 σ ρ v x r1 h1 q1 => q v x _ ow H1 (r1.outM hin) (outOk_conv h1) q1⟩ (startM_rel hin) z
theorem wd_liftMX {T : WX → TS} {P : WP → PSt} {Nn : List Str} {n : Nat} {ps : PSm} (hS : ∀ W Wp, SimS ⟨K, c, W, Wp⟩ (T W) (P Wp)) (hp : ∀ as Q E, ps as Q E → as.length = n ∧ P (fun x ρ => E x (outsOf n ρ)) { nx := fun ρ => Q (.d .non) (outsOf n ρ), rt := fun _ => False, rm := fun r ρ => Q r (outsOf n ρ) } (startM Nn.length as)) : WdX T Nn n (liftM K c ps) := by
  rintro vs H Q E ⟨S, O, ow0, args, Q', E', hin, p, q, qe⟩
  obtain ⟨hl, z⟩ := hp args Q' E' p
  refine ⟨hin.len.trans hl, ?_⟩
  refine hS _ _ ⟨S, O, ow0.map (·.2) ++ (S.map (·.1)).toList, none, fun k => vs[k]?⟩ H _ (fun x ow H1 σ ρ r1 e1 => qe x _ ow H1 (r1.outM hin) e1) ow0 H _ _ _ { nx := fun ρ => Q' (.d .non) (outsOf n ρ), rt := fun _ => False, rm := fun r ρ => Q' r (outsOf n ρ) } ⟨fun ow H1 σ ρ r1 q1 => q _ (.d .non) _ ow H1 (r1.outM hin) Rp.non q1, fun _ _ _ _ _ f => f.elim, fun _ _ _ _ _ f => f.elim, fun _ _ _ _ _ _ _ _ f => f.elim, fun ow H1 σ ρ v x r1 h1 q1 => q v x _ ow H1 (r1.outM hin) (outOk_conv h1) q1⟩ (startM_rel hin) z
end

def amArg (ρ : PEnv) : Am → Pv
  | .d x => .d x
  | .m i p => match ρ[i]? with
    | some (some (.mu _ T)) => (match T.at p with
      | some T1 => .mu true T1
      | none => .d .non)
    | _ => .d .non
def amSl : List Am → List Nat
  | [] => []
  | .d _ :: as => amSl as
  | .m i _ :: as => i :: amSl as
def amGood (ρ : PEnv) : Am → Bool
  | .d _ => true
  | .m i p => match ρ[i]? with
    | some (some (.mu _ T)) => (T.at p).isSome
    | _ => false
def setAt (i : Nat) (p : List Nat) (T1 : Mu) (ρ : PEnv) : PEnv := match ρ[i]? with
  | some (some (.mu b T)) => ρ.set i (some (.mu b (Mu.put p T1 T)))
  | _ => ρ
def putAm : List Am → List Pv → PEnv → PEnv
  | .m i p :: as, .mu _ T1 :: os, ρ => putAm as os (setAt i p T1 ρ)
  | _ :: as, _ :: os, ρ => putAm as os ρ
  | _, _, ρ => ρ
def okOuts : List Am → List Pv → Bool
  | [], [] => true
  | .d _ :: as, _ :: os => okOuts as os
  | .m _ _ :: as, .mu true _ :: os => okOuts as os
  | _, _ => false
theorem setAt_len {i : Nat} {p : List Nat} {T1 : Mu} {ρ : PEnv} : (setAt i p T1 ρ).length = ρ.length := by
  unfold setAt
  split
  · rw [List.length_set]
  · rfl
theorem putAm_len : ∀ {as : List Am} {os : List Pv} {ρ : PEnv}, (putAm as os ρ).length = ρ.length
  | [], [], _ => rfl
  | [], _ :: _, _ => rfl
  | _ :: _, [], ρ => by cases ‹Am› <;> rfl
  | .d _ :: as, o :: os, ρ => putAm_len (as := as) (os := os)
  | .m i p :: as, o :: os, ρ => by
    cases o with
    | mu b T => rw [putAm, putAm_len, setAt_len]
    | _ => exact putAm_len (as := as) (os := os)
theorem setAt_ne {i j : Nat} {p : List Nat} {T1 : Mu} {ρ : PEnv} (h : i ≠ j) : (setAt i p T1 ρ)[j]? = ρ[j]? := by
  unfold setAt
  split
  · rw [List.getElem?_set_ne h]
  · rfl
theorem amSl_of {as : List Am} {k i : Nat} {p : List Nat} (e : as[k]? = some (.m i p)) : i ∈ amSl as := by
  induction as generalizing k with
  | nil => cases e
  | cons a as ih =>
    cases k with
    | zero => cases e; exact List.mem_cons_self ..
    | succ k => cases a with
      | d _ => exact ih e
      | m _ _ => exact List.mem_cons_of_mem _ (ih e)
theorem amSl_inj {as : List Am} (nd : (amSl as).Nodup) {k k' i : Nat} {p p' : List Nat} (e : as[k]? = some (.m i p)) (e' : as[k']? = some (.m i p')) : k = k' := by
  induction as generalizing k k' with
  | nil => cases e
  | cons a as ih =>
    cases a with
    | d _ =>
      cases k with
      | zero => cases e
      | succ k => cases k' with
        | zero => cases e'
        | succ k' => rw [ih nd e e']
    | m j q =>
      have nd : (j :: amSl as).Nodup := nd
      obtain ⟨nj, nd⟩ := List.nodup_cons.mp nd
      cases k with
      | zero =>
        cases e
        cases k' with
        | zero => rfl
        | succ k' => exact absurd (amSl_of (as := as) (k := k') e') nj
      | succ k => cases k' with
        | zero => cases e'; exact absurd (amSl_of (as := as) (k := k) e) nj
        | succ k' => rw [ih nd e e']
theorem amSl_mem {as : List Am} {i : Nat} {p : List Nat} (h : .m i p ∈ as) : i ∈ amSl as := by
  obtain ⟨k, e⟩ := List.getElem?_of_mem h
  exact amSl_of e
theorem amGood_m {ρ : PEnv} {i : Nat} {p : List Nat} (h : amGood ρ (.m i p) = true) : ∃ b T T1, ρ[i]? = some (some (.mu b T)) ∧ T.at p = some T1 ∧ amArg ρ (.m i p) = .mu true T1 := by
  simp only [amGood] at h
  split at h
  · rename_i b T e
    obtain ⟨T1, e1⟩ := Option.isSome_iff_exists.mp h
    exact ⟨b, T, T1, e, e1, by simp only [amArg, e, e1]⟩
  · cases h
theorem putAm_get : ∀ {as : List Am} {os : List Pv} {ρ : PEnv}, okOuts as os = true → (amSl as).Nodup → as.all (amGood ρ) = true → ∀ (j : Nat) (x : Pv), (putAm as os ρ)[j]? = some (some x) →
    (ρ[j]? = some (some x) ∧ j ∉ amSl as) ∨ ∃ (k : Nat) (p : List Nat) (b : Bool) (T T1 : Mu), as[k]? = some (.m j p) ∧ os[k]? = some (.mu true T1) ∧ ρ[j]? = some (some (.mu b T)) ∧ x = .mu b (Mu.put p T1 T)
  | [], [], ρ, _, _, _, j, x, e => .inl ⟨e, by simp [amSl]⟩
  | [], _ :: _, _, h, _, _, _, _, _ => nomatch h
  | .d _ :: as, [], _, h, _, _, _, _, _ => nomatch h
  | .m _ _ :: as, [], _, h, _, _, _, _, _ => nomatch h
  | .d d :: as, o :: os, ρ, h, nd, g, j, x, e => by
    have e : (putAm as os ρ)[j]? = some (some x) := e
    rw [List.all_cons, Bool.and_eq_true] at g
    rcases putAm_get (as := as) (os := os) h nd g.2 j x e with z | ⟨k, p, b, T, T1, e1, e2, e3, e4⟩
    · exact .inl z
    · exact .inr ⟨k + 1, p, b, T, T1, e1, e2, e3, e4⟩
  | .m i p :: as, o :: os, ρ, h, nd, g, j, x, e => by
    rw [List.all_cons, Bool.and_eq_true] at g
    cases o with
    | mu bb T1 =>
      cases bb with
      | false => cases h
      | true =>
        have h : okOuts as os = true := h
        have nd : (i :: amSl as).Nodup := nd
        obtain ⟨ni, nd⟩ := List.nodup_cons.mp nd
        have e : (putAm as os (setAt i p T1 ρ))[j]? = some (some x) := e
        obtain ⟨b, T, T0, ei, ea, _⟩ := amGood_m g.1
        have lt : i < ρ.length := (List.getElem?_eq_some_iff.mp ei).1
        have es : setAt i p T1 ρ = ρ.set i (some (.mu b (Mu.put p T1 T))) := by unfold setAt; rw [ei]
        have g2 : as.all (amGood (setAt i p T1 ρ)) = true := by
          rw [List.all_eq_true] at g ⊢
          intro a ha
          have ga := g.2 a ha
          cases a with
          | d _ => rfl
          | m i2 p2 =>
            have ne : i ≠ i2 := fun z => ni (z ▸ amSl_mem ha)
            simp only [amGood] at ga ⊢
            rw [setAt_ne ne]; exact ga
        rcases putAm_get (as := as) (os := os) h nd g2 j x e with ⟨z, nj⟩ | ⟨k, p2, b2, T2, T12, e1, e2, e3, e4⟩
        · by_cases q : i = j
          · subst q
            rw [es, List.getElem?_set_self lt] at z
            cases z
            exact .inr ⟨0, p, b, T, T1, rfl, rfl, ei, rfl⟩
          · rw [setAt_ne q] at z
            exact .inl ⟨z, fun m => by
              rcases List.mem_cons.mp m with rfl | m
              · exact q rfl
              · exact nj m⟩
        · refine .inr ⟨k + 1, p2, b2, T2, T12, e1, e2, ?_, e4⟩
          by_cases q : i = j
          · subst q
            exact absurd (amSl_of e1) ni
          · rwa [setAt_ne q] at e3
    | _ => cases h
section
variable {N : Cn} {w : Pw} {H0 B H H' : Hp} {ow : Ow} {σ : L2.St} {ρ : PEnv}
def AmAt (N : Cn) (w : Pw) (ow : Ow) (H : Hp) (σ : L2.St) (ρ : PEnv) (vs : List V) (ams : List Am) (k : Nat) (as1 : List Addr) : Prop :=
  (∀ i p v, ams[k]? = some (.m i p) → vs[k]? = some v → ∃ b T T1 v0 xs ys, ρ[i]? = some (some (.mu b T)) ∧ T.at p = some T1 ∧ amArg ρ (.m i p) = .mu true T1 ∧ σ[i]? = some (some v0) ∧ (b = true → w.par i = some v0) ∧ (∀ a ∈ xs ++ as1 ++ ys, (i, a) ∈ ow) ∧ (xs ++ as1 ++ ys).Nodup ∧ RpM N.K N.c w.st H (dh w ow H) v T1 as1 ∧
    ∀ H' G' T1' as1', (∀ a ∈ xs ++ ys, ∀ o, H a = some o → H' a = some o) → Same (dh w ow H) G' → RpM N.K N.c w.st H' G' v T1' as1' → RpM N.K N.c w.st H' G' v0 (Mu.put p T1' T) (xs ++ as1' ++ ys)) ∧
  ((∀ i p, ams[k]? ≠ some (.m i p)) → as1 = [])
theorem callM_go {sp : Sp} {ps : PSm} (hs : SpSimM N.K N.c sp ps) {vs : List V} {ams : List Am} {Q : VK} {E : XK} {Q1 : Da → PEnv → Prop} {E1 : Str → PEnv → Prop} (r : Rel N.K N.c w H0 B ow H σ ρ) (hlen : vs.length = ams.length)
    (ha : ∀ (k : Nat) (v : V) (a : Am), vs[k]? = some v → ams[k]? = some a → AmOk N w ow H σ ρ v a) (nd : (amSl ams).Nodup) (good : ams.all (amGood ρ) = true)
    (p : ps (ams.map (amArg ρ)) (fun r outs => ∃ d, r = .d d ∧ okOuts ams outs = true ∧ Q1 d (putAm ams outs ρ)) (fun x outs => okOuts ams outs = true ∧ E1 x (putAm ams outs ρ)))
    (kq : ∀ v d ow' H' ρ', Rel N.K N.c w H0 B ow' H' σ ρ' → Rp N.K N.c w.st (dh w ow' H') v d → Q1 d ρ' → Q v H') (ke : ∀ x ow' H' ρ', Rel N.K N.c w H0 B ow' H' σ ρ' → E1 x ρ' → E (.ref (N.c.cls x)) none H') : sp vs H Q E := by
  have hk : ∀ k : Nat, ∃ as1, AmAt N w ow H σ ρ vs ams k as1 := fun k => by
    by_cases c : ∃ i p v, ams[k]? = some (.m i p) ∧ vs[k]? = some v
    · obtain ⟨i, p, v, ea, ev⟩ := c
      have g := List.all_eq_true.mp good _ (List.mem_of_getElem? ea)
      obtain ⟨b, T, T1, e1, e2, e3⟩ := amGood_m g
      obtain ⟨v0, xs, as1, ys, es, par, mem, nd', rm, back⟩ := r.loc e1 e2 (ha k v _ ev ea)
      refine ⟨as1, fun i' p' v' ea' ev' => ?_, fun n => absurd ea (n i p)⟩
      rw [ea] at ea'; cases ea'
      rw [ev] at ev'; cases ev'
      exact ⟨b, T, T1, v0, xs, ys, e1, e2, e3, es, par, mem, nd', rm, back⟩
    · exact ⟨[], fun i p v e1 e2 => absurd ⟨i, p, v, e1, e2⟩ c, fun _ => rfl⟩
  obtain ⟨as, has⟩ := Classical.skolem.mp hk
  let ow0 : Ow := (List.range ams.length).flatMap fun k => (as k).map fun a => (k, a)
  have mem0 : ∀ k a, (k, a) ∈ ow0 ↔ k < ams.length ∧ a ∈ as k := fun k a => by
    show (k, a) ∈ (List.range ams.length).flatMap (fun k => (as k).map fun a => (k, a)) ↔ _
    rw [List.mem_flatMap]
    constructor
    · rintro ⟨k', h1, h2⟩
      obtain ⟨a', h3, h4⟩ := List.mem_map.mp h2
      cases h4
      exact ⟨List.mem_range.mp h1, h3⟩
    · rintro ⟨h1, h2⟩
      exact ⟨k, List.mem_range.mpr h1, List.mem_map.mpr ⟨a, h2, rfl⟩⟩
  -- each place of an argument lies in its slot
  have lie : ∀ k a, (k, a) ∈ ow0 → ∃ i p v, ams[k]? = some (.m i p) ∧ vs[k]? = some v ∧ (i, a) ∈ ow := fun k a m => by
    obtain ⟨lt, ma⟩ := (mem0 k a).mp m
    obtain ⟨am, ea⟩ : ∃ am, ams[k]? = some am := ⟨_, List.getElem?_eq_getElem lt⟩
    obtain ⟨v, ev⟩ : ∃ v, vs[k]? = some v := ⟨_, List.getElem?_eq_getElem (by omega)⟩
    cases am with
    | d x =>
      rw [(has k).2 (fun i p z => by rw [ea] at z; cases z)] at ma
      cases ma
    | m i p =>
      obtain ⟨b, T, T1, v0, xs, ys, _, _, _, _, _, mem, _⟩ := (has k).1 i p v ea ev
      exact ⟨i, p, v, ea, ev, mem a (by simp [ma])⟩
  have inj0 : ∀ p ∈ ow0, ∀ q ∈ ow0, p.2 = q.2 → p = q := fun p hp q hq z => by
    obtain ⟨k, a⟩ := p
    obtain ⟨k', a'⟩ := q
    have z : a = a' := z
    subst z
    obtain ⟨i, p1, v1, e1, _, m1⟩ := lie k a hp
    obtain ⟨i', p1', v1', e1', _, m1'⟩ := lie k' a hq
    have := r.inj _ m1 _ m1' rfl
    injection this with zi _
    subst zi
    rw [amSl_inj nd e1 e1']
  let X : List Addr := ow0.map (·.2)
  have memX : ∀ a, a ∈ X ↔ ∃ k, (k, a) ∈ ow0 := fun a => by
    show a ∈ ow0.map (·.2) ↔ _
    rw [List.mem_map]
    constructor
    · rintro ⟨q, hq, rfl⟩; exact ⟨q.1, hq⟩
    · rintro ⟨k, h⟩; exact ⟨_, h, rfl⟩
  let O : List Addr := (ow.filter fun q => decide (q.2 ∉ X)).map (·.2) ++ w.O
  have memO : ∀ a, a ∈ O ↔ (a ∉ X ∧ ∃ j, (j, a) ∈ ow) ∨ a ∈ w.O := fun a => by
    show a ∈ (ow.filter fun q => decide (q.2 ∉ X)).map (·.2) ++ w.O ↔ _
    rw [List.mem_append, List.mem_map]
    constructor
    · rintro (⟨q, hq, rfl⟩ | h)
      · obtain ⟨h1, h2⟩ := List.mem_filter.mp hq
        exact .inl ⟨of_decide_eq_true h2, q.1, h1⟩
      · exact .inr h
    · rintro (⟨h1, j, h2⟩ | h)
      · exact .inl ⟨(j, a), List.mem_filter.mpr ⟨h2, decide_eq_true h1⟩, rfl⟩
      · exact .inr h
  have memH : ∀ a, a ∈ hl w ow ↔ (∃ j, (j, a) ∈ ow) ∨ a ∈ w.O := fun a => by
    show a ∈ ow.map (·.2) ++ w.O ↔ _
    rw [List.mem_append, List.mem_map]
    constructor
    · rintro (⟨q, hq, rfl⟩ | h)
      · exact .inl ⟨q.1, hq⟩
      · exact .inr h
    · rintro (⟨j, h⟩ | h)
      · exact .inl ⟨_, h, rfl⟩
      · exact .inr h
  have all : ∀ a, a ∈ ow0.map (·.2) ++ O ↔ a ∈ hl w ow := fun a => by
    rw [List.mem_append, memH]
    show a ∈ X ∨ a ∈ O ↔ _
    rw [memO]
    constructor
    · rintro (h | ⟨_, h⟩ | h)
      · obtain ⟨k, h⟩ := (memX a).mp h
        obtain ⟨i, _, _, _, _, m⟩ := lie k a h
        exact .inl ⟨i, m⟩
      · exact .inl h
      · exact .inr h
    · rintro (h | h)
      · by_cases q : a ∈ X
        · exact .inl q
        · exact .inr (.inl ⟨q, h⟩)
      · exact .inr (.inr h)
  have ed : hid H (ow0.map (·.2) ++ O) = dh w ow H := hid_cg all
  have hin : InM N.K N.c w.S O ow0 H vs (ams.map (amArg ρ)) := by
    refine ⟨fun a h => r.occ a ((all a).mp h), fun st L e => ⟨(r.dr st L e).1, (memO st).mpr (.inr (r.dr st L e).2.1)⟩, fun q hq => ?_, inj0, by rw [List.length_map]; exact hlen, fun j x e => ?_, r.tb⟩
    · obtain ⟨i, _, _, _, _, m⟩ := lie q.1 q.2 hq
      refine ⟨(r.nd _ m).1, fun z => ?_⟩
      rcases (memO q.2).mp z with ⟨z, _⟩ | z
      · exact z ((memX q.2).mpr ⟨q.1, hq⟩)
      · exact (r.nd _ m).2 z
    · rw [List.getElem?_map] at e
      cases ea : ams[j]? with
      | none => rw [ea] at e; cases e
      | some am =>
        rw [ea] at e
        have lt : j < ams.length := (List.getElem?_eq_some_iff.mp ea).1
        obtain ⟨v, ev⟩ : ∃ v, vs[j]? = some v := ⟨_, List.getElem?_eq_getElem (by omega)⟩
        have evs : (vs.map some)[j]? = some (some v) := by rw [List.getElem?_map, ev]; rfl
        have hv := ha j v am ev ea
        cases am with
        | d d =>
          cases e
          exact ⟨v, evs, by show Rp _ _ _ (hid H (ow0.map (·.2) ++ O)) v d; rw [ed]; exact hv⟩
        | m i p =>
          obtain ⟨b, T, T1, v0, xs, ys, _, _, e3, _, _, mem, nd', rm, _⟩ := (has j).1 i p v ea ev
          have e : amArg ρ (.m i p) = x := Option.some.inj e
          rw [e3] at e
          subst e
          refine ⟨v, as j, evs, fun _ => ev, fun a h => (mem0 j a).mpr ⟨lt, h⟩, ?_, by show RpM _ _ _ _ (hid H (ow0.map (·.2) ++ O)) v T1 (as j); rw [ed]; exact rm⟩
          rw [List.nodup_append, List.nodup_append] at nd'
          exact nd'.1.2.1
  have after : ∀ ow1 H' outs, OutM N.K N.c w.S O ow0 ow1 H H' vs outs → okOuts ams outs = true → ∃ ow', Rel N.K N.c w H0 B ow' H' σ (putAm ams outs ρ) ∧ Same (hid H' (ow1.map (·.2) ++ O)) (dh w ow' H') := by
    intro ow1 H' outs out ok
    let ow' : Ow := (ow.filter fun q => decide (q.2 ∉ X)) ++ ow1.filterMap fun (q : Nat × Addr) => match (ams[q.1]? : Option Am) with
      | some (.m i _) => some (i, q.2)
      | _ => none
    have mem' : ∀ i a, (i, a) ∈ ow' ↔ ((i, a) ∈ ow ∧ a ∉ X) ∨ ∃ k p, (k, a) ∈ ow1 ∧ ams[k]? = some (.m i p) := fun i a => by
      show (i, a) ∈ (ow.filter fun q => decide (q.2 ∉ X)) ++ _ ↔ _
      rw [List.mem_append, List.mem_filter, List.mem_filterMap]
      constructor
      · rintro (⟨h1, h2⟩ | ⟨q, hq, e⟩)
        · exact .inl ⟨h1, of_decide_eq_true h2⟩
        · right
          split at e
          · rename_i i' p' ei
            cases e
            exact ⟨q.1, p', hq, ei⟩
          · cases e
      · rintro (⟨h1, h2⟩ | ⟨k, p, h1, h2⟩)
        · exact .inl ⟨h1, decide_eq_true h2⟩
        · exact .inr ⟨(k, a), h1, by simp only [h2]⟩
    have occX : ∀ j a, (j, a) ∈ ow → ∃ o, H a = some o ∧ Pl o := fun j a m => r.occ a ((memH a).mpr (.inl ⟨j, m⟩))
    have mixed : ∀ j a k, (j, a) ∈ ow → a ∉ X → (k, a) ∈ ow1 → False := fun j a k m nx m1 => by
      rcases out.nw _ m1 with ⟨k', z⟩ | z
      · exact nx ((memX a).mpr ⟨k', z⟩)
      · obtain ⟨o, eo, n⟩ := occX j a m
        exact z o n.1 eo
    have sd0 : Same (hid H' (ow1.map (·.2) ++ O)) (dh w ow' H') := hid_sub fun a h => by
      rcases List.mem_append.mp h with h | h
      · obtain ⟨q, hq, rfl⟩ := List.mem_map.mp h
        rcases (mem' q.1 q.2).mp hq with ⟨h1, h2⟩ | ⟨k, p, h1, h2⟩
        · exact List.mem_append_right _ ((memO q.2).mpr (.inl ⟨h2, q.1, h1⟩))
        · exact List.mem_append_left _ (List.mem_map.mpr ⟨_, h1, rfl⟩)
      · exact List.mem_append_right _ ((memO a).mpr (.inr h))
    have z := r.chg (X := X) (ow' := ow') (H' := H') (σ' := σ) (ρ' := putAm ams outs ρ)
      (fun a o nx ns t e => out.fr a o (fun q hq z => nx ((memX a).mpr ⟨q.1, by rw [← z]; exact hq⟩)) ns t e)
      (fun a h => by
        obtain ⟨k, h⟩ := (memX a).mp h
        obtain ⟨i, _, _, _, _, m⟩ := lie k a h
        exact ⟨i, m⟩)
      (fun q hq h => by
        rcases (mem' q.1 q.2).mp hq with ⟨h1, h2⟩ | ⟨k, p, h1, h2⟩
        · rcases h with h | h
          · exact absurd h h2
          · obtain ⟨o, eo, n⟩ := occX _ _ h1; exact (h o n.1 eo).elim
        · exact out.oc (k, q.2) h1)
      out.dr
      (fun q hq => by
        rcases (mem' q.1 q.2).mp hq with ⟨h1, h2⟩ | ⟨k, p, h1, h2⟩
        · exact .inl ⟨q.1, h1⟩
        · rcases out.nw (k, q.2) h1 with ⟨k', z⟩ | z
          · obtain ⟨i, _, _, _, _, m⟩ := lie k' _ z
            exact .inl ⟨i, m⟩
          · exact .inr z)
      (fun q hq q' hq' z => by
        obtain ⟨i, a⟩ := q
        obtain ⟨i', a'⟩ := q'
        have z : a = a' := z
        subst z
        rcases (mem' i a).mp hq with ⟨h1, h2⟩ | ⟨k, p, h1, h2⟩ <;> rcases (mem' i' a).mp hq' with ⟨h1', h2'⟩ | ⟨k', p', h1', h2'⟩
        · exact r.inj _ h1 _ h1' rfl
        · exact (mixed i a k' h1 h2 h1').elim
        · exact (mixed i' a k h1' h2' h1).elim
        · have := out.inj _ h1 _ h1' rfl
          injection this with zk _
          subst zk
          rw [h2] at h2'; cases h2'; rfl)
      (fun q hq nx => (mem' q.1 q.2).mpr (.inl ⟨hq, nx⟩))
      (by rw [putAm_len]; exact r.len)
      (fun sd j x e => by
        rcases putAm_get ok nd good j x e with ⟨e0, nj⟩ | ⟨k, pth, b, T, T1', e1, e2, e3, e4⟩
        · refine .inl ⟨e0, rfl, fun a hX m => ?_⟩
          obtain ⟨k, h⟩ := (memX a).mp hX
          obtain ⟨i, p', _, ea, _, m'⟩ := lie k a h
          have := r.inj _ m _ m' rfl
          injection this with zi _
          subst zi
          exact nj (amSl_of ea)
        · subst e4
          have lt : k < ams.length := (List.getElem?_eq_some_iff.mp e1).1
          obtain ⟨v, ev⟩ : ∃ v, vs[k]? = some v := ⟨_, List.getElem?_eq_getElem (by omega)⟩
          obtain ⟨b', T', T1, v0, xs, ys, er, ea, _, es, par, mem, nd', rm, back⟩ := (has k).1 j pth v e1 ev
          rw [e3] at er; cases er
          obtain ⟨v', as1', ev', par', mem1, nd1, rm1⟩ := out.sl k T1' e2
          rw [List.getElem?_map, ev] at ev'
          have ev' : v = v' := Option.some.inj (Option.some.inj ev')
          subst ev'
          have nx : ∀ a, a ∈ xs ++ ys → a ∉ X := fun a h hX => by
            obtain ⟨k', h'⟩ := (memX a).mp hX
            obtain ⟨i', p', _, ea', _, m'⟩ := lie k' a h'
            have m : (j, a) ∈ ow := mem a (by simp only [List.mem_append] at h ⊢; rcases h with h | h <;> simp [h])
            have := r.inj _ m _ m' rfl
            injection this with zi _
            subst zi
            have zk := amSl_inj nd e1 ea'
            subst zk
            have ma := ((mem0 k a).mp h').2
            rw [List.nodup_append, List.nodup_append] at nd'
            obtain ⟨⟨_, _, d1⟩, _, d2⟩ := nd'
            rcases List.mem_append.mp h with h | h
            · exact d1 a h a ma rfl
            · exact d2 a (List.mem_append_right _ ma) a h rfl
          have mo : ∀ a, a ∈ xs ++ ys → (j, a) ∈ ow := fun a h => mem a (by simp only [List.mem_append] at h ⊢; rcases h with h | h <;> simp [h])
          have rm2 : RpM N.K N.c w.st H' (dh w ow' H') v T1' as1' := rm1.mono sd0 _ _ _ fun _ _ _ eo => eo
          refine .inr ⟨v0, xs ++ as1' ++ ys, es, par, fun a h => ?_, ?_, back _ _ _ _ (fun a h o eo => out.fr a o (fun q hq z => nx a h ((memX a).mpr ⟨q.1, by rw [← z]; exact hq⟩)) (r.notSt (mo a h)) (r.ntO (mo a h) eo) eo) sd rm2⟩
          · simp only [List.mem_append] at h
            rcases h with (h | h) | h
            · exact (mem' j a).mpr (.inl ⟨mo a (by simp [h]), nx a (by simp [h])⟩)
            · exact (mem' j a).mpr (.inr ⟨k, pth, mem1 a h, e1⟩)
            · exact (mem' j a).mpr (.inl ⟨mo a (by simp [h]), nx a (by simp [h])⟩)
          · have dis : ∀ a, a ∈ xs ++ ys → a ∉ as1' := fun a h h1 => mixed j a k (mo a h) (nx a h) (mem1 a h1)
            rw [List.nodup_append, List.nodup_append] at nd' ⊢
            obtain ⟨⟨n1, _, d1⟩, n2, d2⟩ := nd'
            refine ⟨⟨n1, nd1, fun x hx y hy z => dis x (by simp [hx]) (z ▸ hy)⟩, n2, fun x hx y hy z => ?_⟩
            rcases List.mem_append.mp hx with m | m
            · exact d2 x (List.mem_append_left _ m) y hy z
            · exact dis y (by simp [hy]) (z ▸ m))
      out.tb
    exact ⟨ow', z.1, sd0⟩
  refine hs w.S O ow0 H vs _ Q E _ _ hin p (fun v rr outs ow1 H' out okr ⟨d, e, ok, q1⟩ => ?_) (fun x outs ow1 H' out ⟨ok, e1⟩ => ?_)
  · subst e
    obtain ⟨ow', r', s'⟩ := after ow1 H' outs out ok
    exact kq v d ow' H' _ r' (rpS s' okr) q1
  · obtain ⟨ow', r', s'⟩ := after ow1 H' outs out ok
    exact ke x ow' H' _ r' e1
end

section
variable {N : Cn} {w : Pw} {H0 B H H' : Hp} {ow ow' : Ow} {σ : L2.St} {ρ : PEnv}
def qCalM (ps : PSm) (t : PArM) : QEx := fun ρ Q => t ρ fun ams => (amSl ams).Nodup ∧ ams.all (amGood ρ) = true ∧ ps (ams.map (amArg ρ)) (fun r outs => ∃ d, r = .d d ∧ okOuts ams outs = true ∧ Q d (putAm ams outs ρ)) (fun _ outs => okOuts ams outs = true ∧ False)
def qCalMX (Wp : WP) (ps : PSm) (t : PArM) : QEx := fun ρ Q => t ρ fun ams => (amSl ams).Nodup ∧ ams.all (amGood ρ) = true ∧ ps (ams.map (amArg ρ)) (fun r outs => ∃ d, r = .d d ∧ okOuts ams outs = true ∧ Q d (putAm ams outs ρ)) (fun x outs => okOuts ams outs = true ∧ Wp x (putAm ams outs ρ))
def isO (ρ : PEnv) (x m : Str) (i : Nat) (p : List Nat) : Prop := ∃ b T ks ts, ρ[i]? = some (some (.mu b T)) ∧ T.at p = some (.o x ks ts) ∧ ks.contains m = false
def qMtM (x m : Str) (ps : PSm) (l : PLoc) (t : PArM) : QEx := fun ρ Q => l ρ fun i p => isO ρ x m i p ∧ t ρ fun ams => (amSl (.m i p :: ams)).Nodup ∧ (Am.m i p :: ams).all (amGood ρ) = true ∧ ps ((Am.m i p :: ams).map (amArg ρ)) (fun r outs => ∃ d, r = .d d ∧ okOuts (.m i p :: ams) outs = true ∧ Q d (putAm (.m i p :: ams) outs ρ)) (fun _ outs => okOuts (.m i p :: ams) outs = true ∧ False)
def qMtMX (Wp : WP) (x m : Str) (ps : PSm) (l : PLoc) (t : PArM) : QEx := fun ρ Q => l ρ fun i p => isO ρ x m i p ∧ t ρ fun ams => (amSl (.m i p :: ams)).Nodup ∧ (Am.m i p :: ams).all (amGood ρ) = true ∧ ps ((Am.m i p :: ams).map (amArg ρ)) (fun r outs => ∃ d, r = .d d ∧ okOuts (.m i p :: ams) outs = true ∧ Q d (putAm (.m i p :: ams) outs ρ)) (fun x outs => okOuts (.m i p :: ams) outs = true ∧ Wp x (putAm (.m i p :: ams) outs ρ))
theorem mt_obj {x m : Str} {i : Nat} {p : List Nat} {v : V} (r : Rel N.K N.c w H0 B ow H σ ρ) (l : LocAt H σ ρ i p v) (h : isO ρ x m i p) : ∃ a dx fs, v = .ref a ∧ H a = some (.ins (N.c.cls x) dx fs) ∧ fs.lookup m = none := by
  obtain ⟨b, T, ks, ts, e, ea, hc⟩ := h
  obtain ⟨v0, xs, as1, ys, es, par, mem, nd, rm, back⟩ := r.loc e ea l
  cases rm with
  | o ok eo hl rs => exact ⟨_, _, _, rfl, eo, zip_lookup0 hc⟩
theorem cons_ok {i : Nat} {p : List Nat} {v : V} {vs : List V} {ams : List Am} (l : LocAt H σ ρ i p v) (ha : ∀ (k : Nat) (v : V) (a : Am), vs[k]? = some v → ams[k]? = some a → AmOk N w ow H σ ρ v a) : ∀ (k : Nat) (u : V) (a : Am), (v :: vs)[k]? = some u → (Am.m i p :: ams)[k]? = some a → AmOk N w ow H σ ρ u a := by
  intro k u a e1 e2
  cases k with
  | zero => cases e1; cases e2; exact l
  | succ k => exact ha k u a e1 e2
theorem sim_mtM {x m : Str} {sp : Sp} {ps : PSm} {tl : TE} {l : PLoc} {t : TA} {pt : PArM} (hs : SpSimM N.K N.c sp ps) (hl : SimLc N tl l) (ht : SimAM N t pt) : SimQ N (tMt N.c x m sp tl t) (qMtM x m ps l pt) := by
  intro w H0 B aw ow H σ ρ Q Q' r z k
  refine hl w H0 B aw ow H σ ρ _ _ r z fun i p v H1 r1 x1 l1 ⟨ho, z1⟩ => ?_
  obtain ⟨a, dx, fs, rfl, eo, lk⟩ := mt_obj r1 l1 ho
  refine ⟨a, dx, fs, rfl, eo, lk, ?_⟩
  refine ht w H0 B aw ow H1 σ ρ _ _ r1 z1 fun vs ams H2 r2 x2 hl ha ⟨nd, g, q⟩ => ?_
  exact callM_go (E1 := fun _ _ => False) hs r2 (by simp [hl]) (cons_ok (l1.ex r1 x2) ha) nd g q k (fun _ _ _ _ _ f => f.elim)
theorem sim_mtMX {x m : Str} {sp : Sp} {ps : PSm} {tl : TE} {l : PLoc} {t : TA} {pt : PArM} (hs : SpSimM N.K N.c sp ps) (hl : SimLc N tl l) (ht : SimAM N t pt) : SimQ N (tMtX N.c x m sp N.W tl t) (qMtMX N.Wp x m ps l pt) := by
  intro w H0 B aw ow H σ ρ Q Q' r z k
  refine hl w H0 B aw ow H σ ρ _ _ r z fun i p v H1 r1 x1 l1 ⟨ho, z1⟩ => ?_
  obtain ⟨a, dx, fs, rfl, eo, lk⟩ := mt_obj r1 l1 ho
  refine ⟨a, dx, fs, rfl, eo, lk, ?_⟩
  refine ht w H0 B aw ow H1 σ ρ _ _ r1 z1 fun vs ams H2 r2 x2 hl ha ⟨nd, g, q⟩ => ?_
  exact callM_go (E1 := N.Wp) hs r2 (by simp [hl]) (cons_ok (l1.ex r1 x2) ha) nd g q k (fun x ow' H' ρ' r' f => aw x ow' H' σ ρ' r' f)
theorem Rel.adopt {i : Nat} {p : Addr} {as : List Addr} {T : Mu} (r : Rel N.K N.c w H0 B ow H σ ρ) (x : Ex w.S H H') (lt : i < ρ.length) (fresh : ∀ a ∈ as, Fre H a ∧ ∃ o, H' a = some o ∧ Pl o) (nd : as.Nodup)
    (rm : RpM N.K N.c w.st H' (dh w (as.map (fun a => (i, a)) ++ ow) H') (.ref p) T as) (tb : LamX.Tabs N.c.tb H') : Rel N.K N.c w H0 B (as.map (fun a => (i, a)) ++ ow) H' (σ.set i (some (.ref p))) (ρ.set i (some (.mu false T))) := by
  refine (r.chg (X := []) (ow' := as.map (fun a => (i, a)) ++ ow) (fun a o _ ns t e => x.1 a o ns t e) (fun _ h => nomatch h) (fun q hq h => ?_) x.2 (fun q hq => ?_) (fun q hq q' hq' z => ?_) (fun q hq _ => List.mem_append_right _ hq) (by rw [List.length_set, List.length_set]; exact r.len) (fun sd j y e => ?_) tb).1
  · rcases List.mem_append.mp hq with m | m
    · obtain ⟨a, ha, rfl⟩ := List.mem_map.mp m; exact (fresh a ha).2
    · rcases h with h | h
      · cases h
      · obtain ⟨o, eo, n⟩ := r.plO m; exact (h o n.1 eo).elim
  · rcases List.mem_append.mp hq with m | m
    · obtain ⟨a, ha, rfl⟩ := List.mem_map.mp m; exact .inr (fresh a ha).1
    · exact .inl ⟨q.1, m⟩
  · have old : ∀ q ∈ ow, ∀ a ∈ as, q.2 ≠ a := fun q hq a ha z => by
      obtain ⟨o, eo, n⟩ := r.plO hq
      exact (fresh a ha).1 o n.1 (z ▸ eo)
    rcases List.mem_append.mp hq with m | m <;> rcases List.mem_append.mp hq' with m' | m'
    · obtain ⟨a, ha, rfl⟩ := List.mem_map.mp m
      obtain ⟨a', ha', rfl⟩ := List.mem_map.mp m'
      have z : a = a' := z
      rw [z]
    · obtain ⟨a, ha, rfl⟩ := List.mem_map.mp m
      exact absurd z.symm (old q' m' a ha)
    · obtain ⟨a', ha', rfl⟩ := List.mem_map.mp m'
      exact absurd z (old q m a' ha')
    · exact r.inj q m q' m' z
  · rw [getElem?_set'] at e
    by_cases q : i = j
    · subst q
      rw [if_pos rfl, if_pos lt] at e
      cases e
      exact .inr ⟨.ref p, as, by rw [List.getElem?_set_self (by rw [r.len]; exact lt)], fun z => (by cases z), fun a ha => List.mem_append_left _ (List.mem_map.mpr ⟨a, ha, rfl⟩), nd, rm⟩
    · rw [if_neg q] at e
      exact .inl ⟨e, List.getElem?_set_ne q, fun _ h => nomatch h⟩
theorem make_goM {x : Str} {gs : List Str} {sp : Sp} {ps : PSi} (hs : SpSimI N.K N.c x gs sp ps) {vs : List V} {ds : List Da} {Q : VK} {E : XK} {Q' : List Da → Prop} {E' : Str → Prop} {p dx : Addr} (ok : ClsOk N.K N.c x gs) (r : Rel N.K N.c w H0 B ow H σ ρ) (h : RpA N.K N.c w.st (dh w ow H) vs ds)
    (hp : H p = none) (hdx : H dx = none) (ne : dx ≠ p) (z : ps ds Q' E') (k : ∀ l H', ExC N.c w.S H H' → (∃ d2 xs, H' p = some (.ins (N.c.cls x) d2 (gs.zip xs)) ∧ l.length = gs.length ∧ RpA N.K N.c w.st (hid H' (p :: hl w ow)) xs l) → Q' l → Q (.ref p) H') (e : ∀ y H', Rel N.K N.c w H0 B ow H' σ ρ → E' y → E (.ref (N.c.cls y)) none H') :
    sp (.ref p :: vs) (upd (upd H dx (.own p)) p (.ins (N.c.cls x) dx [])) (fun v H2 => v = .non ∧ Q (.ref p) H2) E := by
  have hp2 : upd H dx (.own p) p = none := by rw [upd_ne ne.symm]; exact hp
  have s1 : Same H (upd (upd H dx (.own p)) p (.ins (N.c.cls x) dx [])) := Same.new hp2 (Same.new hdx (Same.refl H))
  have back : ∀ H', (∀ a o, (∀ st L, w.S = some (st, L) → a ≠ st) → a ≠ p → Nt o → upd (upd H dx (.own p)) p (.ins (N.c.cls x) dx []) a = some o → H' a = some o) → (∀ st L, w.S = some (st, L) → Draw H' st L) → Ex w.S H H' := fun H' h1 h2 => ⟨fun a o n nt ea => h1 a o n (fun z => by subst z; rw [hp] at ea; cases ea) nt (s1 a o ea), h2⟩
  refine hs w.S (hl w ow) _ p dx vs ds _ E Q' E' ⟨r.occ.same s1, r.tb.ext s1⟩ (fun st L q => ⟨(r.dr st L q).1.same s1, r.stO st L q, Draw.ne hp (r.dr st L q).1, Draw.neL hp (r.dr st L q).1⟩) ok upd_same (r.occ.no hp) (rpsS (hid_ofS hp s1) h) z (fun l H' h1 h2 _ rj q => ⟨rfl, ?_⟩) (fun y H' h1 h2 q => e y H' (r.ex (back H' h1 h2.1) h2.2) q)
  exact k l H' ⟨back H' h1 h2.1, h2.2⟩ rj q
theorem Rel.adoptO {i : Nat} {p : Addr} {x : Str} {gs : List Str} {l : List Da} (r : Rel N.K N.c w H0 B ow H σ ρ) (ex : ExC N.c w.S H H') (lt : i < ρ.length) (ok : ClsOk N.K N.c x gs) (hp : H p = none) (h : ∃ d2 xs, H' p = some (.ins (N.c.cls x) d2 (gs.zip xs)) ∧ l.length = gs.length ∧ RpA N.K N.c w.st (hid H' (p :: hl w ow)) xs l) :
    Rel N.K N.c w H0 B ((i, p) :: ow) H' (σ.set i (some (.ref p))) (ρ.set i (some (.mu false (.o x gs (l.map .d))))) := by
  obtain ⟨d2, xs, eo, hl, ra⟩ := h
  exact r.adopt (as := [p]) ex.1 lt (fun a ha => by obtain rfl := List.mem_singleton.mp ha; exact ⟨Fre.of hp, _, eo, pl_ins⟩) (by simp) (.o ok eo (by rw [List.length_map]; exact hl) (RpMs.ofA ra)) ex.2
def qAsgMkX (Wp : WP) (i : Nat) (x : Str) (gs : List Str) (ps : PSi) (t : PAr) : PSt := fun D ρ => i < ρ.length ∧ t ρ fun ds => ps ds (fun l => D.nx (ρ.set i (some (.mu false (.o x gs (l.map .d)))))) fun y => Wp y ρ
theorem sim_asgMkX {i : Nat} {x : Str} {gs : List Str} {sp : Sp} {ps : PSi} {t : TA} {pt : PAr} (hs : SpSimI N.K N.c x gs sp ps) (ht : SimA N t pt) : SimS N (tAsg (tMkX N.K N.c x gs sp N.W t) (gName i)) (qAsgMkX N.Wp i x gs ps pt) := by
  intro w H0 B aw ow H σ ρ D D' a r ⟨lt, z⟩
  refine ht w H0 B aw ow H σ ρ _ _ r z fun vs ds H1 r1 s1 h1 q1 ok p dx hp hdx ne => ?_
  exact make_goM (Q := fun v H2 => gName i v σ H2 D.nx) hs ok r1 h1 hp hdx ne q1 (fun l H2 x2 rj q => a.nx _ _ _ _ (r1.adoptO x2 lt ok hp rj) q) (fun y H' r' f => aw y ow H' σ ρ r' f)
def qRetP (e : QEx) : PSt := fun D ρ => e ρ fun d _ => D.rt d
end

section
variable {N : Cn} {w : Pw} {H0 B H H' : Hp} {ow ow' : Ow} {σ : L2.St} {ρ : PEnv}
abbrev Pw.pin (w : Pw) (j : Nat) (u : V) : Pw := { w with par := fun k => if k = j then some u else w.par k }
theorem Rel.pin {j : Nat} {u : V} (r : Rel N.K N.c w H0 B ow H σ ρ) (h : ∀ b T, ρ[j]? ≠ some (some (.mu b T))) : Rel N.K N.c (w.pin j u) H0 B ow H σ ρ := by
  refine ⟨r.occ, r.dr, r.nd, r.inj, r.fr, r.fr2, r.len, fun i x e => ?_, r.bs, r.tb⟩
  have k := r.sl i x e
  cases x with
  | d x => exact k
  | own l => exact k
  | dct t l => exact k
  | obj x gs ks l => exact k
  | mu b T =>
    obtain ⟨v, as, es, par, rest⟩ := k
    refine ⟨v, as, es, fun z => ?_, rest⟩
    show (if i = j then some u else w.par i) = _
    rw [if_neg (fun z2 => h b T (by rw [← z2]; exact e))]
    exact par z
end

def rdAt (ρ : PEnv) (i : Nat) (p : List Nat) (Q : Da → Prop) : Prop := ∃ b T x, ρ[i]? = some (some (.mu b T)) ∧ T.at p = some (.d x) ∧ Q x
def fldAt (ρ : PEnv) (i : Nat) (p : List Nat) (f : Str) (Q : Nat → List Nat → Prop) : Prop := ∃ b T x ks ts k, ρ[i]? = some (some (.mu b T)) ∧ T.at p = some (.o x ks ts) ∧ fIx f ks = some k ∧ Q i (p ++ [k])
def ixAt (ρ : PEnv) (i : Nat) (p : List Nat) (d : Da) (Q : Nat → List Nat → Prop) : Prop := ∃ n b T ts k, d = .int n ∧ ρ[i]? = some (some (.mu b T)) ∧ T.at p = some (.l ts) ∧ ixN ts.length n = some k ∧ Q i (p ++ [k])
def cmAt (ρ : PEnv) (ps : PSm) (Q : Da → PEnv → Prop) (Wp : WP) (ams : List Am) : Prop := (amSl ams).Nodup ∧ ams.all (amGood ρ) = true ∧ ps (ams.map (amArg ρ)) (fun r outs => ∃ d, r = .d d ∧ okOuts ams outs = true ∧ Q d (putAm ams outs ρ)) (fun x outs => okOuts ams outs = true ∧ Wp x (putAm ams outs ρ))
def stF (ρ : PEnv) (i : Nat) (p : List Nat) (f : Str) (d : Da) (R : PEnv → Prop) : Prop := ∃ b T x ks ts k, ρ[i]? = some (some (.mu b T)) ∧ T.at p = some (.o x ks ts) ∧ fIx f ks = some k ∧ ks.length < 1000 ∧ R (ρ.set i (some (.mu b (Mu.put p (.o x ks (ts.set k (.d d))) T))))
def stI (ρ : PEnv) (i : Nat) (p : List Nat) (kd d : Da) (R : PEnv → Prop) : Prop := ∃ n b T ts j, kd = .int n ∧ ρ[i]? = some (some (.mu b T)) ∧ T.at p = some (.l ts) ∧ ixN ts.length n = some j ∧ R (ρ.set i (some (.mu b (Mu.put p (.l (ts.set j (.d d))) T))))
section
variable {ρ : PEnv} {Q : Da → Prop} {i k : Nat} {p : List Nat} {b : Bool} {T : Mu} {D : PD} {R : PEnv → Prop} {f x : Str} {ks : List Str} {ts : List Mu} {d : Da} {L : Nat → List Nat → Prop}
theorem p_rd {l : PLoc} (h : l ρ fun i p => rdAt ρ i p Q) : pRd l ρ Q := h
theorem p_rdAt (h : ρ[i]? = some (some (.mu b T))) (ha : T.at p = some (.d d)) (q : Q d) : rdAt ρ i p Q := ⟨b, T, d, h, ha, q⟩
theorem l_var (h : ρ[i]? = some (some (.mu b T))) (q : L i []) : plVar i ρ L := ⟨b, T, h, q⟩
theorem l_fld {l : PLoc} (h : l ρ fun i p => fldAt ρ i p f L) : plFld l f ρ L := h
theorem l_fldAt (h : ρ[i]? = some (some (.mu b T))) (ha : T.at p = some (.o x ks ts)) (hf : fIx f ks = some k) (q : L i (p ++ [k])) : fldAt ρ i p f L := ⟨b, T, x, ks, ts, k, h, ha, hf, q⟩
theorem l_ix {l : PLoc} {e : PEx} (h : l ρ fun i p => e ρ fun d => ixAt ρ i p d L) : plIx l e ρ L := h
theorem l_ixAt {n : Int} (h : ρ[i]? = some (some (.mu b T))) (ha : T.at p = some (.l ts)) (hi : ixN ts.length n = some k) (q : L i (p ++ [k])) : ixAt ρ i p (.int n) L := ⟨n, b, T, ts, k, rfl, h, ha, hi, q⟩
theorem p_see {e : PEx} (L : Bool) (cl : List Str) (h : ρ[i]? = some (some (.mu b T))) (f : T.full = true) (ic : T.inC L cl = true) (q : e (ρ.set i (some (.d T.da))) fun d => d.nl L cl = true ∧ Q d) : pSee i e ρ Q := ⟨b, T, L, cl, h, f, ic, q⟩
theorem p_ofF {e : PAr} (h : e ρ fun l => Q (.lst l)) : pOfF e ρ Q := h
variable {S : Da → PEnv → Prop} {SB : Bool → PEnv → Prop} {SA : List Da → PEnv → Prop}
theorem q_p {e : PEx} (h : e ρ fun d => S d ρ) : qP e ρ S := h
theorem q_pT {e : PTe} (h : e ρ fun d => SB d ρ) : qPT e ρ SB := h
theorem q_nil (h : SA [] ρ) : qNil ρ SA := h
theorem q_cons {a : QEx} {t : QAr} (h : a ρ fun x ρ1 => t ρ1 fun xs ρ2 => SA (x :: xs) ρ2) : qCons a t ρ SA := h
theorem q_lst {t : QAr} (h : t ρ fun ds ρ1 => ds.length ≤ 100000 ∧ S (.lst ds) ρ1) : qLst t ρ S := h
theorem q_tup {t : QAr} (h : t ρ fun ds ρ1 => ds.length ≤ 100000 ∧ S (.tup ds) ρ1) : qTup t ρ S := h
theorem q_op {r : PR2} {a c : QEx} (h : a ρ fun x ρ1 => c ρ1 fun y ρ2 => r x y fun d => S d ρ2) : qOp r a c ρ S := h
theorem q_un {r : PR1} {a : QEx} (h : a ρ fun x ρ1 => r x fun d => S d ρ1) : qUn r a ρ S := h
theorem q_cb {r : PRl} {a : QAr} (h : a ρ fun x ρ1 => r x fun d => S d ρ1) : qCB r a ρ S := h
theorem q_test {e : QEx} (h : e ρ fun d ρ1 => ∃ b, d = .bl b ∧ SB b ρ1) : qTest e ρ SB := h
theorem q_tru {e : QEx} (h : e ρ fun d ρ1 => ∃ b, truD d b ∧ SB b ρ1) : qTru e ρ SB := h
theorem q_and {t u : QTe} (h : t ρ fun b ρ1 => if b = true then u ρ1 SB else SB false ρ1) : qAnd t u ρ SB := h
theorem q_or {t u : QTe} (h : t ρ fun b ρ1 => if b = true then SB true ρ1 else u ρ1 SB) : qOr t u ρ SB := h
theorem q_not {t : QTe} (h : t ρ fun b ρ1 => SB (!b) ρ1) : qNot t ρ SB := h
theorem q_if {t : QTe} {a c : QEx} (h : t ρ fun k ρ1 => if k = true then a ρ1 S else c ρ1 S) : qIf t a c ρ S := h
theorem q_cal {ps : PSp} {t : QAr} (h : t ρ fun ds ρ1 => ps ds (fun d => S d ρ1) fun _ => False) : qCal ps t ρ S := h
theorem q_calS {Wp : WP} {ps : PSp} {t : QAr} (h : t ρ fun ds ρ1 => ps ds (fun d => S d ρ1) fun x => Wp x ρ1) : qCalS Wp ps t ρ S := h
theorem q_mk {X : Str} {gs : List Str} {ps : PSi} {t : QAr} (h : t ρ fun ds ρ1 => ps ds (fun l => S (.ins X gs l) ρ1) fun _ => False) : qMk X gs ps t ρ S := h
theorem q_asg {e : QEx} {g : PTg} (h : e ρ fun d ρ1 => g d ρ1 D.nx) : qAsg e g D ρ := h
theorem q_drop {e : QEx} (h : e ρ fun _ ρ1 => D.nx ρ1) : qDrop e D ρ := h
theorem q_ret {e : QEx} (h : e ρ fun d ρ1 => D.rm (.d d) ρ1) : qRet e D ρ := h
theorem q_retP {e : QEx} (h : e ρ fun d _ => D.rt d) : qRetP e D ρ := h
theorem q_retN (h : D.rm (.d .non) ρ) : qRetN D ρ := h
theorem q_ifS {t : QTe} {a c : PSt} (h : t ρ fun b ρ1 => if b = true then a D ρ1 else c D ρ1) : qIfS t a c D ρ := h
theorem q_setF {l : PLoc} {e : QEx} (h : e ρ fun d ρ1 => l ρ1 fun i p => stF ρ1 i p f d D.nx) : qSetF l f e D ρ := h
theorem q_stF (h : ρ[i]? = some (some (.mu b T))) (ha : T.at p = some (.o x ks ts)) (hf : fIx f ks = some k) (hk : ks.length < 1000) (q : R (ρ.set i (some (.mu b (Mu.put p (.o x ks (ts.set k (.d d))) T))))) : stF ρ i p f d R := ⟨b, T, x, ks, ts, k, h, ha, hf, hk, q⟩
theorem q_setI {l : PLoc} {kx : PEx} {e : QEx} (h : e ρ fun d ρ1 => l ρ1 fun i p => kx ρ1 fun kd => stI ρ1 i p kd d D.nx) : qSetI l kx e D ρ := h
theorem q_stI {n : Int} (h : ρ[i]? = some (some (.mu b T))) (ha : T.at p = some (.l ts)) (hi : ixN ts.length n = some k) (q : R (ρ.set i (some (.mu b (Mu.put p (.l (ts.set k (.d d))) T))))) : stI ρ i p (.int n) d R := ⟨n, b, T, ts, k, rfl, h, ha, hi, q⟩
theorem q_calM {ps : PSm} {t : PArM} (h : t ρ fun ams => cmAt ρ ps S (fun _ _ => False) ams) : qCalM ps t ρ S := h
theorem q_calMX {Wp : WP} {ps : PSm} {t : PArM} (h : t ρ fun ams => cmAt ρ ps S Wp ams) : qCalMX Wp ps t ρ S := h
theorem q_mtM {X m : Str} {ps : PSm} {l : PLoc} {t : PArM} (h : l ρ fun i p => isO ρ X m i p ∧ t ρ fun ams => cmAt ρ ps S (fun _ _ => False) (.m i p :: ams)) : qMtM X m ps l t ρ S := h
theorem q_mtMX {Wp : WP} {X m : Str} {ps : PSm} {l : PLoc} {t : PArM} (h : l ρ fun i p => isO ρ X m i p ∧ t ρ fun ams => cmAt ρ ps S Wp (.m i p :: ams)) : qMtMX Wp X m ps l t ρ S := h
theorem is_o {X m : Str} (h : ρ[i]? = some (some (.mu b T))) (ha : T.at p = some (.o X ks ts)) (hc : ks.contains m = false) : isO ρ X m i p := ⟨b, T, ks, ts, h, ha, hc⟩
theorem cm_at {ps : PSm} {Wp : WP} {ams : List Am} (nd : (amSl ams).Nodup) (g : ams.all (amGood ρ) = true) (h : ps (ams.map (amArg ρ)) (fun r outs => ∃ d, r = .d d ∧ okOuts ams outs = true ∧ S d (putAm ams outs ρ)) (fun x outs => okOuts ams outs = true ∧ Wp x (putAm ams outs ρ))) : cmAt ρ ps S Wp ams := ⟨nd, g, h⟩
variable {SM : List Am → Prop}
theorem m_nil (h : SM []) : pmNil ρ SM := h
theorem m_d {e : PEx} {t : PArM} (h : e ρ fun x => t ρ fun xs => SM (.d x :: xs)) : pmD e t ρ SM := h
theorem m_l {l : PLoc} {t : PArM} (h : l ρ fun i p => t ρ fun xs => SM (.m i p :: xs)) : pmL l t ρ SM := h
theorem q_asgMkX {Wp : WP} {X : Str} {gs : List Str} {ps : PSi} {t : PAr} (lt : i < ρ.length) (h : t ρ fun ds => ps ds (fun l => D.nx (ρ.set i (some (.mu false (.o X gs (l.map .d)))))) fun y => Wp y ρ) : qAsgMkX Wp i X gs ps t D ρ := ⟨lt, h⟩
end
theorem sim_mkK0 {N : Cn} {x : Str} {gs : List Str} {n nk : Nat} {ms : List Cst} {sel : List (Bool × Nat)} {sp : Sp} {ps : PSi} {t tk : TA} {pt pk : PAr} (hs : SpSimI N.K N.c x gs sp ps) (ht : SimA ⟨N.K, N.c, W0, fun _ _ => False⟩ t pt) (hk : SimA ⟨N.K, N.c, W0, fun _ _ => False⟩ tk pk) (hm : ms.all cstOk = true) : SimE N (tMkK N.K N.c x gs n nk ms sel sp W0 t tk) (pMkK (fun _ _ => False) x gs n nk ms sel ps pt pk) :=
  fun w H0 B _ ow H σ ρ Q Q' r z k => sim_mkK (N := ⟨N.K, N.c, W0, fun _ _ => False⟩) hs ht hk hm w H0 B (fun _ _ _ _ _ _ f => f.elim) ow H σ ρ Q Q' r z k
local macro_rules | `(tactic| walk_at "pu") => `(tactic| (with_reducible first | refine p_istr ?_ | refine p_cstT ?_ | refine p_kout ?_ | refine p_kin ?_ | refine p_kst ?_ | refine p_ord ?_ | refine p_izip2 ?_ | refine p_izip3 ?_ | (refine p_zip2 (by first | exact seqL | exact seqT | assumption) (by first | exact seqL | exact seqT | assumption) ?_) | (refine p_zip3 (by first | exact seqL | exact seqT | assumption) (by first | exact seqL | exact seqT | assumption) (by first | exact seqL | exact seqT | assumption) ?_) | (refine p_lenS (by omega) ?_)))
local macro_rules | `(tactic| walk_at "pv") => `(tactic| repeat (first | walk_at "p1" | walk_at "pu"))
local macro_rules | `(tactic| walk_at "pw") => `(tactic| repeat (first | walk_at "p1" | walk_at "pu" | walk_at "pd"))
local macro_rules | `(tactic| walk_at "pm0") => `(tactic| (with_reducible first | refine q_p ?_ | refine q_pT ?_ | refine q_nil ?_ | refine q_cons ?_ | refine q_lst ?_ | refine q_tup ?_ | refine q_op ?_ | refine q_un ?_ | refine q_cb ?_ | refine q_test ?_ | refine q_tru ?_ | refine q_and ?_ | refine q_or ?_ | refine q_not ?_ | refine q_if ?_ | refine q_cal ?_ | refine q_calS ?_ | refine q_mk ?_ | refine q_asg ?_ | refine q_drop ?_ | refine q_ret ?_ | refine q_retP ?_ | refine q_retN ?_ | refine q_ifS ?_ | refine q_setF ?_ | refine q_setI ?_ | refine q_calM ?_ | refine q_calMX ?_ | refine q_mtM ?_ | refine q_mtMX ?_ | refine m_nil ?_ | refine m_d ?_ | refine m_l ?_ | refine p_rd ?_ | refine l_fld ?_ | refine l_ix ?_ | refine p_ofF ?_))
local macro_rules | `(tactic| walk_at "pm1") => `(tactic| (with_reducible first
  | ((show plVar _ _ _); refine l_var (by with_unfolding_all rfl) ?_)
  | ((show rdAt _ _ _ _); refine p_rdAt (by with_unfolding_all rfl) (by with_unfolding_all rfl) ?_)
  | ((show fldAt _ _ _ _ _); refine l_fldAt (by with_unfolding_all rfl) (by with_unfolding_all rfl) (by with_unfolding_all rfl) ?_)
  | ((show ixAt _ _ _ _ _); refine l_ixAt (by with_unfolding_all rfl) (by with_unfolding_all rfl) (by with_unfolding_all rfl) ?_)
  | ((show stF _ _ _ _ _ _); refine q_stF (by with_unfolding_all rfl) (by with_unfolding_all rfl) (by with_unfolding_all rfl) (by with_unfolding_all exact of_decide_eq_true rfl) ?_)
  | ((show stI _ _ _ _ _ _); refine q_stI (by with_unfolding_all rfl) (by with_unfolding_all rfl) (by with_unfolding_all rfl) ?_)
  | ((show isO _ _ _ _ _ ∧ _); refine And.intro (is_o (by with_unfolding_all rfl) (by with_unfolding_all rfl) (by with_unfolding_all rfl)) ?_)
  | ((show cmAt _ _ _ _ _); refine cm_at (by with_unfolding_all exact of_decide_eq_true rfl) (by with_unfolding_all rfl) ?_)))
local macro_rules | `(tactic| walk_at "pm2") => `(tactic| (dsimp only [List.set, Mu.put, putAm, setAt, List.getElem?_cons_zero, List.getElem?_cons_succ, List.nil_append, List.cons_append]))
local macro_rules | `(tactic| walk_at "mz") => `(tactic| repeat (first | walk_at "p1" | walk_at "pm0" | walk_at "pm1" | walk_at "pm2"))
local macro_rules | `(tactic| walk_at "mx") => `(tactic| repeat (first | walk_at "p1" | walk_at "pm0" | walk_at "pm1" | walk_at "pd" | walk_at "pm2"))

abbrev LK : List Str := ["schema", "key", "now", "floor", "pins", "notes", "segments", "upcoming"]
structure NtF where
  nm : Str
  i : Int
  m1 : Int
  m2 : Int
  o : Option Int
  r : Option RecF
  s : Option Int
  lv : List Int
def roD : Option RecF → Da | none => .non | some r => r.da
def NtF.da (x : NtF) : Da := .ins "Note" NTK [.str x.nm, .int x.i, .tup [.int x.m1, .int x.m2], oD x.o, roD x.r, oD x.s, .tup (iD x.lv)]
abbrev SGK : List Str := ["number", "shard", "partitions"]
structure SgF where
  i : Int
  sh : Da
  pt : List Da
def SgF.da (x : SgF) : Da := .ins "Segment" SGK [.int x.i, x.sh, .tup x.pt]
structure LgF where
  sc : SchF
  k1 : Int
  k2 : Int
  now : Int
  fl : Int
  ps : List Int
  ns : List NtF
  sg : List SgF
  up : Int
def LgF.da (g : LgF) : Da := .ins "Ledger" LK [g.sc.da, .tup [.int g.k1, .int g.k2], .int g.now, .int g.fl, .lst (iD g.ps), .lst (g.ns.map NtF.da), .lst (g.sg.map SgF.da), .int g.up]
def LgF.mu (g : LgF) : Mu := .o "Ledger" LK [.d g.sc.da, .d (.tup [.int g.k1, .int g.k2]), .d (.int g.now), .d (.int g.fl), .d (.lst (iD g.ps)), .d (.lst (g.ns.map NtF.da)), .d (.lst (g.sg.map SgF.da)), .d (.int g.up)]
structure LgF.Ok (g : LgF) : Prop where
  ns : g.ns.length ≤ 5000
  ps : g.ps.length ≤ 5000
  sg : g.sg.length ≤ 5000
  sm : ∀ x ∈ g.ns, ∀ r, x.r = some r → r.Sm
def NtF.at (x : NtF) (t : Int) : Bool := decide (x.i ≤ t) && (match x.o with | none => true | some j => decide (t < j))
def need (fl : Int) (ps : List Int) (x : NtF) : Bool := (match x.o with | none => true | some j => decide (fl < j)) || ps.any x.at
def LgF.kp (g : LgF) (t : Int) : Bool := decide (t ∈ g.ps) || (decide (g.fl ≤ t) && decide (t ≤ g.now))
def LgF.tidy (g : LgF) : LgF := { g with ns := g.ns.filter (need g.fl g.ps), sg := g.sg.filter fun s => inD (.int s.i) ((g.ns.filter (need g.fl g.ps)).map fun x => oD x.s) }
def NtF.open (nm : Str) (x : NtF) : Bool := decide (x.nm = nm) && x.o.isNone
def NtF.fin (nm : Str) (j : Int) (x : NtF) : NtF := if x.open nm = true then { x with o := some j } else x
def LgF.fin (nm : Str) (g : LgF) : LgF := { g with ns := g.ns.map (NtF.fin nm g.now) }
def LgF.tick (g : LgF) : LgF := { g with now := g.now + 1 }
def newN (g : LgF) (r : RecF) : NtF := ⟨r.n, g.now, foldF g.k1 (rowF g.now r), foldF g.k2 (rowF g.now r), none, some r, none, []⟩
def LgF.add (g : LgF) (x : NtF) : LgF := { g with ns := g.ns ++ [x] }
def LgF.put (g : LgF) (r : RecF) : LgF := ((g.tick.fin r.n).add (newN g.tick r)).tidy
def LgF.drop (g : LgF) (nm : Str) : LgF := (g.tick.fin nm).tidy
def LgF.pin (g : LgF) : LgF := { g with ps := g.ps ++ [g.now] }
def mx (a b : Int) : Int := if b > a then b else a
def mn (a b : Int) : Int := if b < a then b else a
def LgF.lift (g : LgF) (t : Int) : LgF := ({ g with fl := mx g.fl (mn t g.now) } : LgF).tidy
theorem LgF.Ok.tidy {g : LgF} (h : g.Ok) : g.tidy.Ok := ⟨Nat.le_trans (List.length_filter_le ..) h.ns, h.ps, Nat.le_trans (List.length_filter_le ..) h.sg, fun x hx => h.sm x (List.mem_filter.mp hx).1⟩
theorem LgF.Ok.fin {g : LgF} {nm : Str} (h : g.Ok) : (g.fin nm).Ok := ⟨by show (g.ns.map _).length ≤ 5000; rw [List.length_map]; exact h.ns, h.ps, h.sg, fun x hx => by
  obtain ⟨y, hy, rfl⟩ := List.mem_map.mp hx
  intro r e
  refine h.sm y hy r ?_
  unfold NtF.fin at e
  by_cases c : y.open nm = true
  · rw [if_pos c] at e; exact e
  · rw [if_neg c] at e; exact e⟩
-- Note.closed_by(self, number): slots 0:self 1:number
def ps_Ledger_init : PSi := fun ds Q _ => ∃ (s : SchF) (a b : Int), ds = [s.da, .tup [.int a, .int b]] ∧ 0 ≤ a ∧ a < 4294967291 ∧ 0 ≤ b ∧ b < 4294967291 ∧ Q [s.da, .tup [.int a, .int b], .int 0, .int 0, .lst [], .lst [], .lst [], .int 1]
def sp_Ledger_init (K : PySem.W.Frag) (c : CEnv) : Sp := liftI K c "Ledger" LK ps_Ledger_init
theorem b_Ledger_init {K : PySem.W.Frag} {c : CEnv} : SpSimI K c "Ledger" LK (sp_Ledger_init K c) ps_Ledger_init := spSimI_lift
abbrev N_Ledger_init : List Str := ["self", "schema", "key"]
-- Ledger.__init__(self, schema, key): slots 0:self 1:schema 2:key
def T_Ledger_init (K : PySem.W.Frag) (c : CEnv) (W : WX) : TS :=
    (tSeq (tDrop (tCallS (sp_check_key K c) (WE W) (tCons (tVar 2) tNil)))
    (tSeq (sFld K (tVar 0) (tVar 1) "schema")
    (tSeq (sFld K (tVar 0) (tTup (tCons (tOp (uIx K) (tVar 2) (tC (.int 0))) (tCons (tOp (uIx K) (tVar 2) (tC (.int 1))) tNil))) "key")
    (tSeq (sFld K (tVar 0) (tC (.int 0)) "now")
    (tSeq (sFld K (tVar 0) (tC (.int 0)) "floor")
    (tSeq (sFld K (tVar 0) (tLst tNil) "pins")
    (tSeq (sFld K (tVar 0) (tLst tNil) "notes")
    (tSeq (sFld K (tVar 0) (tLst tNil) "segments")
    (sFld K (tVar 0) (tC (.int 1)) "upcoming")))))))))
def P_Ledger_init (Wp : WP) : PSt :=
    (pSeq (pDrop (pCalS Wp ps_check_key (pCons (pVar 2) pNil)))
    (pSeq (pSetF 0 "schema" (pVar 1))
    (pSeq (pSetF 0 "key" (pTup (pCons (pOp pIx (pVar 2) (pC (.int 0))) (pCons (pOp pIx (pVar 2) (pC (.int 1))) pNil))))
    (pSeq (pSetF 0 "now" (pC (.int 0)))
    (pSeq (pSetF 0 "floor" (pC (.int 0)))
    (pSeq (pSetF 0 "pins" (pLst pNil))
    (pSeq (pSetF 0 "notes" (pLst pNil))
    (pSeq (pSetF 0 "segments" (pLst pNil))
    (pSetF 0 "upcoming" (pC (.int 1)))))))))))
theorem S_Ledger_init {K : PySem.W.Frag} {c : CEnv} {W : WX} {Wp : WP} : SimS ⟨K, c, W, Wp⟩ (T_Ledger_init K c W) (P_Ledger_init Wp) := by
  unfold T_Ledger_init P_Ledger_init
  exact (sim_seq (sim_drop (sim_calS b_check_key (sim_cons (sim_var 2) sim_nil)))
    (sim_seq (sim_setF (sim_var 1))
    (sim_seq (sim_setF (sim_tup (sim_cons (sim_op sim_ix (sim_var 2) (sim_int _)) (sim_cons (sim_op sim_ix (sim_var 2) (sim_int _)) sim_nil))))
    (sim_seq (sim_setF (sim_int _))
    (sim_seq (sim_setF (sim_int _))
    (sim_seq (sim_setF (sim_lst sim_nil))
    (sim_seq (sim_setF (sim_lst sim_nil))
    (sim_seq (sim_setF (sim_lst sim_nil))
    (sim_setF (sim_int _))))))))))

theorem q_Ledger_init : ∀ ds Q E, ps_Ledger_init ds Q E → ds.length + 1 = 3 ∧ P_Ledger_init (fun x _ => E x) { nx := endI "Ledger" LK Q, rt := fun _ => False } (startI "Ledger" LK 3 ds) := by
  rintro _ Q E ⟨s, a, b, rfl, a0, a1, b0, b1, q⟩
  refine ⟨rfl, ?_⟩
  show P_Ledger_init _ _ [some (.obj "Ledger" LK [] []), some (.d s.da), some (.d (.tup [.int a, .int b]))]
  unfold P_Ledger_init
  walk_at "pz"
  refine ⟨a, b, rfl, a0, a1, b0, b1, ?_⟩
  walk_at "pz"
  exact ⟨_, rfl, q⟩
theorem w_Ledger_init {K : PySem.W.Frag} {c : CEnv} : WdX (T_Ledger_init K c) N_Ledger_init 3 (sp_Ledger_init K c) := wd_liftIX (fun W Wp => S_Ledger_init) (by decide) q_Ledger_init
-- Ledger.keeps(self, moment): slots 0:self 1:moment
-- Ledger.is_needed(self, note): slots 0:self 1:note 2:moment
-- Ledger.note_of(self, name): slots 0:self 1:name 2:note
-- Ledger.live(self, moment): slots 0:self 1:moment 2:note
-- Ledger.tidy(self): slots 0:self 1:note 2:owners 3:segment
-- Ledger.end(self, name): slots 0:self 1:name 2:note
namespace ZL
open PySem PySem.Spec PyProof.Rows L2 LamX
structure LamS1 (sc scope : Scope) (y : Str) : Prop where
  kind : scope.kind = .function
  co : scope.isCoroutine = false
  gen : scope.isGenerator = false
  own : ∀ z, scope.names.lookup z = some .local → z = y
  noc : ∀ z ∈ scope.names, z.2 ≠ .cell
  par : scope.names.lookup y = some .local
  free : ∀ z ∈ scope.names, z.2 = .free → sc.names.lookup z.1 = some .cell ∨ sc.names.lookup z.1 = some .free
def lamS1B (sc scope : Scope) (y : Str) : Bool :=
  decide (scope.kind = .function) && !scope.isCoroutine && !scope.isGenerator && decide (scope.names.lookup y = some .local) && scope.names.all fun z => (!decide (z.2 = .local) || decide (z.1 = y)) && !decide (z.2 = .cell) && (!decide (z.2 = .free) || decide (sc.names.lookup z.1 = some .cell) || decide (sc.names.lookup z.1 = some .free))
theorem lamS1_by {sc scope : Scope} {y : Str} (h : lamS1B sc scope y = true) : LamS1 sc scope y := by
  unfold lamS1B at h
  simp only [Bool.and_eq_true, Bool.or_eq_true, Bool.not_eq_true', decide_eq_true_eq, decide_eq_false_iff_not, List.all_eq_true] at h
  obtain ⟨⟨⟨⟨h1, h2⟩, h3⟩, h5⟩, h4⟩ := h
  refine ⟨h1, h2, h3, fun z hz => ?_, fun z hz => (h4 z hz).1.2, h5, fun z hz e => ?_⟩
  · have hm : (z, NameKind.local) ∈ scope.names := PySem.mem_of_lookup hz
    rcases (h4 _ hm).1.1 with q | q
    · exact absurd rfl q
    · exact q
  · rcases (h4 z hz).2 with (q | q) | q
    · exact absurd e q
    · exact .inl q
    · exact .inr q
theorem LamS1.has {X : Cx} {scope : Scope} {y : Str} (L : LamS1 X.env.scope scope y) (ok : X.Ok) : ∀ z ∈ scope.names, z.2 = .free → ∃ c, X.env.cells.lookup z.1 = some c := fun z hz e => by
  rcases L.free z hz e with k | k
  · exact ok.has _ (.inl k)
  · exact ok.has _ (.inr k)
section
variable {X : Cx} {pins : List (Addr × Obj)} {σ : L2.St} {H : Hp} {s : Shared}
theorem lam1_start {A : Around} {E : XK} {scope : Scope} {f c' : Addr} {h₁ : Heap} {tk : Nat} {y : Str} {v : Value} {x : V} {j : Nat} (I : Inv X pins σ H s) (L : LamS1 X.env.scope scope y) (fr : A.frames = some X.stack) (hd : A.handled = none)
    (hns : h₁.Ns s.heap.objs.size fun z => ([(y, v)] : List (Str × Value)).reverse.lookup z) (kp : ∀ b o, s.heap.get? b = some o → h₁.get? b = some o) (rx : RelV x v) (hj : X.N[j]? = some y) (hN : ∀ i, X.N[i]? = some y → i = j) :
    Inv (lamCx X A X.stack s H E scope f c') [] (σ.set j (some x)) H { s with heap := h₁, toks := tk } := by
  have e0 : Env0 X.prog X.w X.K X.mg X.base A X.stack s H := ⟨fr, I.ok.mod, I.bs, Nat.le_trans I.ok.bsz I.sz, I.stack, I.stkFree, I.hok, I.bare⟩
  have hfree := L.has I.ok
  have cm : ∀ {z c}, (cloFrom X.env.cells scope.names []).lookup z = some c → X.env.cells.lookup z = some c := fun {z c} e => by
    rcases cloFrom_mem (PySem.mem_of_lookup e) with hm | ⟨h1, h2⟩
    · cases hm
    · obtain ⟨c1, hc⟩ := hfree _ h1 rfl
      have hc : X.env.cells.lookup z = some c1 := hc
      have e2 : c = c1 := by
        rw [h2, hc] <;> rfl
      rw [e2]
      exact hc
  have look : ∀ {z}, scope.names.lookup z = some .free → ∃ c, (cloFrom X.env.cells scope.names []).lookup z = some c := fun {z} hl => by
    have hy : (z, NameKind.free) ∈ scope.names := PySem.mem_of_lookup hl
    exact mem_lookup (cloFrom_has (cells := X.env.cells) (acc := []) hy)
  have cellK : ∀ {c : Addr} {w : Option Value}, s.heap.IsCell c w → h₁.IsCell c w := fun {c w} ⟨o, ho, hd⟩ => ⟨o, kp _ _ ho, hd⟩
  have noA : ∀ b : Addr, b ∉ (lamCx X A X.stack s H E scope f c').ex := fun b z => absurd (show b ∈ ([] : List Addr) from z) (by simp)
  refine ⟨⟨e0.mod, L.kind, rfl, rfl, Nat.le_refl _, fun y z c e1 e2 => I.ok.inj y z c (cm e1) (cm e2), fun z hz => ?_, fun z c q _ => ?_, fun _ => hd, Around.frames_deeper e0.frames, .inr ⟨rfl, rfl⟩, fun b z => absurd z (noA b), e0.bs, e0.bsz, fun b _ _ => noA b,
      fun b z => absurd z (noA b), e0.funs, e0.frf⟩,
    rfl, e0.bare, Un.kept kp, ⟨_, hns, fun i z w e1 e2 e3 => ?_⟩, fun z c e => ?_, e0.hok.fresh (Nat.le_refl _), fun z c e => ?_, fun q hq => absurd (show q ∈ ([] : List (Addr × Obj)) ++ [] from hq) (by simp), e0.hok.kept kp, by rw [List.length_set]; exact I.len⟩
  · have hz : scope.names.lookup z = some .cell ∨ scope.names.lookup z = some .free := hz
    rcases hz with hz | hz
    · exact absurd rfl (L.noc _ (PySem.mem_of_lookup hz))
    · exact look hz
  · have q : false = true := q
    cases q
  · have e3 : Vis scope z := e3
    have e1 : X.N[i]? = some z := e1
    rcases e3 with k | k | k
    · obtain rfl := L.own z k
      obtain rfl := hN i e1
      have lt : i < σ.length := by rw [I.len]; exact (List.getElem?_eq_some_iff.mp hj).1
      rw [List.getElem?_set_self lt] at e2
      cases e2
      exact ⟨v, rx, .inl ⟨k, by simp⟩⟩
    · exact absurd rfl (L.noc _ (PySem.mem_of_lookup k))
    · have ne : i ≠ j := fun q => by
        subst q
        rw [hj] at e1
        cases e1
        rw [L.par] at k; cases k
      rw [List.getElem?_set_ne (Ne.symm ne)] at e2
      obtain ⟨m, hn, hl⟩ := I.loc
      have hvis : Vis X.env.scope z := (L.free _ (PySem.mem_of_lookup k) rfl).elim (fun k => .inr (.inl k)) (fun k => .inr (.inr k))
      obtain ⟨w', r, q⟩ := hl i z w e1 e2 hvis
      obtain ⟨c2, h2⟩ := look k
      refine ⟨w', r, .inr ⟨.inr k, c2, h2, ?_⟩⟩
      have c1 := cm h2
      rcases q with ⟨k', _⟩ | ⟨_, c3, e', q⟩
      · have k' : X.env.scope.names.lookup z = some .local := k'
        rcases L.free _ (PySem.mem_of_lookup k) rfl with k2 | k2 <;> rw [show X.env.scope.names.lookup z = _ from k2] at k' <;> cases k'
      · rw [c1] at e'
        cases e'
        exact cellK q
  · obtain ⟨w', q⟩ := I.cell z c (cm e)
    exact ⟨w', cellK q⟩
  · exact I.freeC z c (cm e)
theorem lam1_call {A : Around} {scope : Scope} {f c' : Addr} {pm ctv : Value} {params : Arguments} {body : Expr} {k : Nat} {y : Str} {v : Value} {x : V} {j : Nat} {tb : TE} {Q : VK}
    (I : Inv X pins σ H s) (sb : L2.Sub X (k + 1) A) (L : LamS1 X.env.scope scope y) (hf : s.heap.get? f = some (PySem.W.kla_obj "<lambda>" (X.env.qual ++ "<lambda>") params body scope (cloFrom X.env.cells scope.names []) pm c' ctv)) (hco : H c' = some (CodeO c' (X.env.qual ++ "<lambda>")))
    (hbind : bindArgs (PySem.W.kla_fn "<lambda>" (X.env.qual ++ "<lambda>") params body scope (cloFrom X.env.cells scope.names []) pm (.ref c') ctv) ⟨[v], []⟩ = pure [(y, v)])
    (hbody : ∀ (A : Around) (s : Shared) (H : Hp), Room k (A.deeper (lamEnv X scope s.heap.objs.size f c')) → PE (lamCx X A X.stack s H C8.E0 scope f c') body tb)
    (rx : RelV x v) (hj : X.N[j]? = some y) (hN : ∀ i, X.N[i]? = some y → i = j) (h : tb (σ.set j (some x)) H Q) :
    wpAny (model X.prog X.w) A (call (.ref f) [v]) (EP X pins σ Q) (fun _ _ => False) s := by
  obtain ⟨⟨oc, vs, t, hoc, hdc, hvc⟩, _, _⟩ := I.hok c' _ hco
  have fr : A.frames = some X.stack := sb.fr.trans I.ok.frames
  have rc : codeAny (model X.prog X.w) A (.call (.ref f) ⟨[v], []⟩) (CR (L2.CX X.prog X.w) X.stack X.prog X.w H s Q C8.E0) s := by
    refine PySem.W.kla_callFunE sb.room.depth hf rfl L.co L.gen rfl ⟨c', oc, vs, t, rfl, hoc, hdc, hvc⟩ ?_
    rw [hbind]
    refine wpAny_pure (wpAny_newFunctionEnv L.noc (fun z hz => by
      obtain rfl := List.mem_singleton.mp hz
      exact L.par) (fun h₁ hns hsb => ⟨I.nolimit.fresh _ hsb, ?_⟩) L.kind)
    show codeAny _ _ (.expr body (lamEnv X scope s.heap.objs.size f c')) _ _
    have kp : ∀ b o, s.heap.get? b = some o → h₁.get? b = some o := fun b o e => hsb.extBut b o (Nat.ne_of_lt (Heap.lt_size e)) (Heap.get?_push_of_some _ e)
    have J := lam1_start (E := C8.E0) (scope := scope) (f := f) (c' := c') (tk := s.toks + ([(y, v)] : List (Str × Value)).length) I L fr sb.room.hd hns kp rx hj hN
    refine PySem.W.kla_codeExpr (wpAny_mono ((hbody A s H (sb.room.deeper _)).run [] _ _ H Q J h) (fun v s' hq => ?_) fun e s' hq => hq)
    obtain ⟨w', H', J', rv, q⟩ := hq
    exact ⟨w', H', J'.os, J'.bare, J'.base, J'.hok, rv, q⟩
  refine wpAny_call (codeAny_mono rc fun r s' hq => ?_)
  cases r with
  | error e =>
    obtain ⟨_, _, _, _, _, _, _, _, _, _, _, _, _, _, z⟩ := hq
  | ok fl =>
    cases fl with
    | ret u => exact I.after hq
    | next => exact False.elim hq
    | brk => exact False.elim hq
    | cont => exact False.elim hq
end
end ZL

namespace ZL
open PySem PySem.Calls PyProof.Rows PySem.W
section
variable {prog : Program} {w : World} {A : Around} {E : Value → Shared → Prop} {s : Shared} {a kS : Addr} {b : Bool} {vs : List Value} {keys : Array Value} {e e1 : Nat} {P : PySem.Fin → Shared → Prop} {kz : List PyData}
def Keeps2 (a c : Addr) (h h' : Heap) : Prop := ∀ b o, b ≠ a → b ≠ c → h.get? b = some o → h'.get? b = some o
theorem keyJ_tail {st : SortSt} {out : List Value} (nk : s.heap.get? kS = some (seqObj "list" keys e)) (na : s.heap.get? a = some (seqObj "list" #[] e1)) (hka : kS ≠ a)
    (hsz : keys.size ≤ sizeLine) (hz : out.length ≤ sizeLine) (hfl : failedOf st = none) (ho : (if b = true then ((arrOf st).map (·.2)).reverse else (arrOf st).map (·.2)) = out.toArray)
    (h : ∀ h' tk c, Keeps2 a kS s.heap h' → h'.get? a = some (seqObj "list" out.toArray c) → P (.done (.ret .none)) { s with heap := h', toks := tk }) :
    wpAny (model prog w) A (ksk_tail a b e1 (.ref kS) st) P E s := by
  have s1 := Heap.SameBut.update s.heap kS (Obj.mapSeq fun _ => (#[] : Array Value))
  have na1 : (s.heap.update kS (Obj.mapSeq fun _ => (#[] : Array Value))).get? a = some (seqObj "list" #[] e1) := (s1.2 a hka.symm).trans na
  have s2 := Heap.SameBut.update (s.heap.update kS (Obj.mapSeq fun _ => (#[] : Array Value))) a (Obj.mapSeq fun _ => out.toArray)
  obtain ⟨c2, hc2⟩ : ∃ c2, ((s.heap.update kS (Obj.mapSeq fun _ => (#[] : Array Value))).update a (Obj.mapSeq fun _ => out.toArray)).get? a = some (seqObj "list" out.toArray c2) :=
    ⟨_, get?_update_seq na1 fun _ => out.toArray⟩
  have hz2 : out.toArray.size ≤ sizeLine + 1 := by
    rw [List.size_toArray]
    exact Nat.le_succ_of_le hz
  unfold ksk_tail
  try dsimp only
  rw [ho]
  refine wpAny_bind (listUpdate_at nk rfl ?_ hsz (Nat.zero_le _))
  refine wpAny_bind (wpAny_letGo ?_)
  refine wpAny_bind (seqEpoch_at na1 rfl ?_)
  refine wpAny_bind (listUpdate_at na1 rfl ?_ (Nat.zero_le _) hz2)
  rw [hfl]
  simp only [bne_self_eq_false, Bool.false_eq_true, if_false]
  exact wpAny_pure (h _ _ c2 (fun c o h1 h2 q => (s2.2 c h1).trans ((s1.2 c h2).trans q)) hc2)
theorem keyJ_end {κ : PyProof.Rows.KeyKind} (nk : s.heap.get? kS = some (seqObj "list" keys e)) (na : s.heap.get? a = some (seqObj "list" #[] e1)) (hka : kS ≠ a)
    (S : SortsAt prog w A s κ keys.toList) (hsz : keys.size = vs.length) (hZ : vs.length ≤ sizeLine)
    (h : ∀ h' tk c, Keeps2 a kS s.heap h' → h'.get? a = some (seqObj "list" (sortVals κ b keys.toList vs).toArray c) → P (.done (.ret .none)) { s with heap := h', toks := tk }) :
    wpAny (model prog w) A (ksk_end a b vs.toArray e1 (.ref kS) keys) P E s := by
  obtain ⟨kd, h1, h2⟩ := S.kind
  have hkl : keys.toList.length = vs.length := by
    rw [Array.length_toList]
    exact hsz
  have hK : PyProof.Rows.KeysOf κ (keys.zip vs.toArray) := keysOf_zip S.keys
  have hol : (sortVals κ b keys.toList vs).length = vs.length := sortVals_length b hkl
  have hstart : (if b = true then (keys.zip vs.toArray).reverse else keys.zip vs.toArray).Perm (keys.zip vs.toArray) := by
    cases b with
    | false => exact Array.Perm.refl _
    | true => exact Array.perm_iff_toList_perm.mpr (by rw [if_pos rfl, Array.toList_reverse]; exact List.reverse_perm _)
  have hss : (if b = true then (keys.zip vs.toArray).reverse else keys.zip vs.toArray).size = vs.length := by rw [hstart.size_eq, Array.size_zip, hsz, List.size_toArray, Nat.min_self]
  have fin : ∀ st' : SortSt, (arrOf st').Perm (if b = true then (keys.zip vs.toArray).reverse else keys.zip vs.toArray) → SortedToK κ (arrOf st') (if b = true then (keys.zip vs.toArray).reverse else keys.zip vs.toArray).size →
      Stable κ (arrOf st') (if b = true then (keys.zip vs.toArray).reverse else keys.zip vs.toArray) → (if b = true then ((arrOf st').map (·.2)).reverse else (arrOf st').map (·.2)) = (sortVals κ b keys.toList vs).toArray := by
    intro st' hp hs ht
    have e := sort_out (rev := b) (keys := keys) (items := vs.toArray) (xs := arrOf st') (κ := κ) hK hp hs ht
    have e' := congrArg List.toArray e
    rw [Array.toArray_toList] at e'
    exact e'
  have step : ∀ t : Sem PySem.Fin, wpAny (model prog w) A t P E s → wpAny (model prog w) A (if b = true then (do let _ ← rule "list.sort.reverse"; t) else t) P E s := by
    intro t ht
    split
    · exact wpAny_bind (wpAny_rule ht)
    · exact ht
  unfold ksk_end
  try dsimp only
  refine step _ ?_
  by_cases hl2 : vs.toArray.size < 2
  · rw [if_pos hl2, if_pos hl2]
    refine wpAny_bind (wpAny_pure ?_)
    rw [StateT.run_pure]
    refine wpAny_bind (wpAny_pure ?_)
    try dsimp only
    refine keyJ_tail (st := SortSt.mk' general' (if b = true then (keys.zip vs.toArray).reverse else keys.zip vs.toArray) #[] 7 none) nk na hka (by rw [hsz]; exact hZ) (by rw [hol]; exact hZ) rfl (fin _ (Array.Perm.refl _) ?_ (Stable.refl _)) h
    intro i j hij hj
    rw [hss] at hj
    rw [List.size_toArray] at hl2
    have : i = j := by omega
    subst this
    exact KeyOrd.kle_refl _
  · rw [if_neg hl2, if_neg hl2]
    rw [List.size_toArray] at hl2
    refine wpAny_bind (h2 (by omega) _ ?_)
    refine wpAny_bind (wpAny_mono (H.wpS_sortRunsSt (κ := κ) (kd := kd) (a₀ := if b = true then (keys.zip vs.toArray).reverse else keys.zip vs.toArray)
      (st := SortSt.mk' kd (if b = true then (keys.zip vs.toArray).reverse else keys.zip vs.toArray) #[] 7 none)
      (Q := fun _ st' => failedOf st' = none ∧ (if b = true then ((arrOf st').map (·.2)).reverse else (arrOf st').map (·.2)) = (sortVals κ b keys.toList vs).toArray)
      h1 (hK.perm hstart) ⟨Array.Perm.refl _, rfl, rfl⟩ rfl (Stable.refl _) (by rw [hss]; omega) fun st' a1 a2 a3 a4 => ⟨a2, fin st' a1 a3 a4⟩) ?_ fun _ _ e => e)
    rintro ⟨⟨⟩, st'⟩ s' ⟨rfl, hf, ho⟩
    try dsimp only at ho ⊢
    exact keyJ_tail nk na hka (by rw [hsz]; exact hZ) (by rw [hol]; exact hZ) hf ho h
theorem keyJ_rest {f : Value} {J : Nat → Array Value → Shared → Prop} (hka : kS ≠ a) (hlen : kz.length = vs.length) (hZ : vs.length ≤ sizeLine) (hal : AllAlike kz) (hsk : PySem.W.Sortable kz) (hu : ∀ d, d ∈ kz → A.units + d.depth < cLine)
    (hst : ∀ i kA s', J i kA s' → ∃ e, s'.heap.get? kS = some (seqObj "list" kA e) ∧ s'.heap.get? a = some (seqObj "list" #[] e1) ∧ kA.size = i)
    (turn : ∀ i v kA s', vs[i]? = some v → J i kA s' → wpAny (model prog w) A (call f [v]) (fun u s'' => ∃ e, s''.heap.get? kS = some (seqObj "list" kA e) ∧ J (i + 1) (kA.push u) { s'' with heap := s''.heap.update kS (Obj.mapSeq (·.push u)) }) (fun _ _ => False) s')
    (fin : ∀ kA s', J vs.length kA s' → EachIs (fun v k => ∃ as, Reads s'.heap v k as) kA.toList kz ∧ ∀ h' tk out c, Keeps2 a kS s'.heap h' → h'.get? a = some (seqObj "list" (List.toArray out) c) → KeyedOut b kz vs out → P (.done (.ret .none)) { s' with heap := h', toks := tk })
    (h0 : J 0 #[] s) : wpAny (model prog w) A (ksk_rest a f b vs.toArray e1 (.ref kS)) P E s := by
  unfold ksk_rest
  refine wpAny_bind (wpAny_rule ?_)
  first
    | rw [List.forIn_toArray]
    | (rw [← Array.forIn_toList]; simp only [List.toList_toArray])
    | rw [← Array.forIn_toList]
  refine wpAny_bind (ksk_fold (fun i s' => ∃ kA, J i kA s') vs 0 s ⟨#[], h0⟩ ?step ?done)
  case step =>
    rintro j x s' hx ⟨kA, hJ⟩
    simp only [Nat.zero_add] at hJ ⊢
    have hj : j < vs.length := (List.getElem?_eq_some_iff.mp hx).1
    obtain ⟨e, nk', na', hz⟩ := hst _ _ _ hJ
    refine wpAny_bind (wpAny_attempt (wpAny_mono (turn j x kA s' hx hJ) (fun v s'' he => ?_) fun _ _ hF => hF.elim))
    obtain ⟨e2, nk2, hJ2⟩ := he
    try dsimp only
    refine wpAny_bind (listUpdate_at nk2 rfl ?_ (by omega) (Nat.le_trans (Nat.le_of_eq (Array.size_push ..)) (by omega)))
    exact wpAny_pure ⟨rfl, kA.push v, hJ2⟩
  case done =>
    rintro s' ⟨kA, hJ⟩
    rw [Nat.zero_add] at hJ
    obtain ⟨e, nk', na', hz⟩ := hst _ _ _ hJ
    obtain ⟨hk', fin⟩ := fin _ _ hJ
    try dsimp only
    refine wpAny_bind (listItems_at nk' rfl ?_)
    exact keyJ_end (κ := dataKind s'.heap kz) nk' na' hka (SortsAt.data hk' hal hsk hu) hz hZ fun h3 tk3 c k3 n3 => fin h3 tk3 _ c k3 n3 ⟨s'.heap, kA.toList, hal, rfl, hk'⟩
end
end ZL

namespace ZL
open PySem PySem.Spec PyProof.Rows L2 LamX
inductive KeyV (K : PySem.W.Frag) (H : Hp) : V → PyData → Prop
  | bl (b : Bool) : KeyV K H (.bl b) (.bool b)
  | int (i : Int) : KeyV K H (.int i) (.int i)
  | str (x : Str) : KeyV K H (.str x) (.str x)
  | tup2 {a : Addr} {x y : V} {k l : PyData} : SqT K H a [x, y] → KeyV K H x k → KeyV K H y l → KeyV K H (.ref a) (.tuple [k, l])
inductive KeyVs (K : PySem.W.Frag) (H : Hp) : List V → List PyData → Prop
  | nil : KeyVs K H [] []
  | cons {v : V} {k : PyData} {vs : List V} {ks : List PyData} : KeyV K H v k → KeyVs K H vs ks → KeyVs K H (v :: vs) (k :: ks)
section
variable {K : PySem.W.Frag} {H H' : Hp}
def ExtT (H H' : Hp) : Prop := ∀ b o, H b = some o → (∀ ps, o ≠ .tbl ps) → (∀ xs, o ≠ .lst xs) → H' b = some o
theorem sqT_ext {a : Addr} {xs : List V} (h : SqT K H a xs) (e : ExtT H H') : SqT K H' a xs := by
  rcases h with (h | ⟨o, h⟩) | h
  · exact .inl (.inl (e _ _ h (fun ps z => by cases z) fun ps z => by cases z))
  · exact .inl (.inr ⟨o, e _ _ h (fun ps z => by cases z) fun ps z => by cases z⟩)
  · exact .inr h
theorem codeO_nl {c : Addr} {q : Str} (xs : List V) : CodeO c q ≠ .lst xs := fun z => by
  unfold CodeO at z
  cases z
theorem KeyV.ext {v : V} {k : PyData} (h : KeyV K H v k) (e : ExtT H H') : KeyV K H' v k := by
  induction h with
  | bl b => exact .bl b
  | int i => exact .int i
  | str x => exact .str x
  | tup2 s _ _ i1 i2 => exact .tup2 (sqT_ext s e) i1 i2
theorem KeyVs.ext {vs : List V} {ks : List PyData} (h : KeyVs K H vs ks) (e : ExtT H H') : KeyVs K H' vs ks := by
  induction h with
  | nil => exact .nil
  | cons h1 _ ih => exact .cons (h1.ext e) ih
theorem KeyVs.snoc {v : V} {k : PyData} (h1 : KeyV K H v k) : ∀ {vs : List V} {ks : List PyData}, KeyVs K H vs ks → KeyVs K H (vs ++ [v]) (ks ++ [k])
  | _, _, .nil => .cons h1 .nil
  | _, _, .cons h t => .cons h (KeyVs.snoc h1 t)
end
section
variable {X : Cx} {pins : List (Addr × Obj)} {σ : L2.St} {H : Hp} {s : Shared}
theorem KeyV.reads {v : V} {k : PyData} {u : Value} (h : KeyV X.K H v k) (I : Inv X pins σ H s) (r : RelV v u) : ∃ as, Reads s.heap u k as := by
  induction h generalizing u with
  | bl b => obtain rfl : u = .bool b := r; exact ⟨_, .bool b⟩
  | int i => obtain ⟨t, rfl⟩ : ∃ t, u = .int i t := r; exact ⟨_, .int i t⟩
  | str x => obtain ⟨t, rfl⟩ : ∃ t, u = .str x t := r; exact ⟨_, .str x t⟩
  | @tup2 a x y k l sq _ _ i1 i2 =>
    obtain rfl : u = .ref a := r
    obtain ⟨its, rv, ⟨o, ho, hc, n, hd⟩, _⟩ := I.tuple sq
    cases rv with
    | cons r1 rv => cases rv with
      | cons r2 rv =>
        cases rv
        obtain ⟨as, h1⟩ := i1 r1
        obtain ⟨bs, h2⟩ := i2 r2
        exact ⟨_, .tuple ho hc hd (.cons h1 (.cons h2 .nil))⟩
theorem KeyVs.reads (I : Inv X pins σ H s) : ∀ {vs : List V} {ks : List PyData} {us : List Value}, KeyVs X.K H vs ks → Vals vs us → PySem.W.EachIs (fun v k => ∃ as, Reads s.heap v k as) us ks
  | _, _, _, .nil, .nil => .nil
  | _, _, _, .cons h t, .cons r rs => .cons (h.reads I r) (KeyVs.reads I t rs)
theorem adopt {h' : Heap} {t' : Nat} {ch : List Addr} {T : Addr} {ob : HO} (I : Inv X pins σ H s) (k : ∀ b o, b ∉ ch → s.heap.get? b = some o → h'.get? b = some o) (hf : ∀ b ∈ ch, FpOk X pins H b) (hT : T ∈ ch)
    (new : ObjOk X.prog X.w (upd H T ob) h' T ob) : Inv X pins σ (upd H T ob) { s with heap := h', toks := t' } := by
  have hn : H T = none := (hf T hT).1
  have nit : ∀ b u, H b = some u → b ∉ ch := fun b u e z => by
    have q := (hf b z).1
    rw [q] at e; cases e
  refine I.step (g' := s.gens) (d' := s.drawn) (ch := ch) (fun b hb => ⟨(hf b hb).2.2.2.1, (hf b hb).2.1, (hf b hb).2.2.2.2.1, (hf b hb).2.2.2.2.2⟩) (fun b o _ _ hc e _ => k b o hc e) (fun b o _ _ hc e _ => ⟨o.slots, k b o hc e⟩)
    (fun b o hc e n => ?_) (fun b o hc e => ⟨o, k b o hc e⟩) (fun b xs e => ?_) (fun b o u e => ?_) (fun b ps e => ⟨#[], ?_⟩) (fun m hm => ?_) (fun b u e => ?_) I.bare
  · rw [upd_ne (fun z : b = T => hc (by rw [z]; exact hT))]; exact n
  · rw [upd_ne (ne_of_none e hn)]; exact e
  · rw [upd_ne (ne_of_none e hn)]; exact e
  · rw [upd_ne (ne_of_none e hn), e]; simp
  · obtain ⟨o, es, ep, ho, r⟩ := hm
    exact ⟨o, es, ep, k _ o (fun z => (hf _ z).2.1 rfl) ho, r⟩
  · by_cases hb : b = T
    · subst hb
      rw [upd_same] at e
      cases e
      exact new
    · rw [upd_ne hb] at e
      refine (I.hok b u e).stay (fun c v hc q => k c v ?_ q) (fun c q => by rw [upd_ne (ne_of_none q hn)]; exact q) fun c xs q => by rw [upd_ne (ne_of_none q hn)]; exact q
      rcases hc with z | z
      · rw [z]; exact nit b u e
      · exact nit c _ z
theorem fp_next {H' : Hp} {b : Addr} (h : FpOk X pins H b) (n : H' b = none) : FpOk X pins H' b := ⟨n, h.2⟩
theorem vals_snoc {v : V} {u : Value} (r : RelV v u) : ∀ {vs : List V} {us : List Value}, Vals vs us → Vals (vs ++ [v]) (us ++ [u])
  | _, _, .nil => .cons r .nil
  | _, _, .cons h t => .cons h (vals_snoc r t)
theorem each_zip : ∀ {xs : List V} {vs : List Value} {ks : List PyData}, Vals xs vs → ks.length = xs.length → PySem.W.EachIs (fun v (p : V × PyData) => RelV p.1 v) vs (xs.zip ks)
  | _, _, [], .nil, _ => .nil
  | _, _, k :: ks, .cons r t, h => .cons r (each_zip t (by simpa using h))
theorem zip_snd : ∀ {xs : List V} {ks : List PyData}, ks.length = xs.length → (xs.zip ks).map Prod.snd = ks
  | [], [], _ => rfl
  | [], k :: ks, h => by simp at h
  | x :: xs, [], h => by simp at h
  | x :: xs, k :: ks, h => by rw [List.zip_cons_cons, List.map_cons, zip_snd (by simpa using h)]
theorem each_vals : ∀ {out : List Value} {ps : List (V × PyData)}, PySem.W.EachIs (fun v (p : V × PyData) => RelV p.1 v) out ps → Vals (ps.map Prod.fst) out
  | _, _, .nil => .nil
  | _, _, .cons h t => .cons h (each_vals t)
theorem vals_at : ∀ {xs : List V} {us : List Value} {i : Nat} {u : Value}, Vals xs us → us[i]? = some u → ∃ x, xs[i]? = some x ∧ RelV x u
  | _, _, _, _, .nil, e => by simp at e
  | _, _, 0, _, .cons r _, e => by simp at e; subst e; exact ⟨_, rfl, r⟩
  | _, _, i + 1, u, .cons _ t, e => by
    obtain ⟨x, h1, h2⟩ := vals_at (i := i) t (by simpa using e)
    exact ⟨x, by simpa using h1, h2⟩
noncomputable def srtV (xs : List V) (ks : List PyData) : List V := ((xs.zip ks).mergeSort (PySem.W.dataLe false Prod.snd)).map Prod.fst
theorem srtV_len {xs : List V} {ks : List PyData} (h : ks.length = xs.length) : (srtV xs ks).length = xs.length := by
  unfold srtV
  rw [List.length_map, List.length_mergeSort, List.length_zip, h, Nat.min_self]
theorem srt_call {T : List (Addr × Str)} {scope : Scope} {l f c' : Addr} {pm ctv : Value} {params : Arguments} {body : Expr} {k : Nat} {y : Str} {j : Nat} {tb : TE} {Q : VK} {xs : List V} {ks : List PyData} {R : Hp → Hp → Prop} (hR0 : R H H) (hRt : ∀ {H1 H2 H3 : Hp}, R H1 H2 → R H2 H3 → R H1 H3) (hRe : ∀ {H1 H2 : Hp}, R H1 H2 → ExtT H1 H2)
    (I : Inv X pins σ H s) (hr : Room (k + 3) X.A) (hl : SqL X.K H l xs) (hks : ks.length = xs.length) (hal : PySem.W.AllAlike ks) (hsk : PySem.W.Sortable ks) (hu : ∀ d ∈ ks, X.A.units + 2 + d.depth < cLine) (L : LamS1 X.env.scope scope y)
    (hf : s.heap.get? f = some (PySem.W.kla_obj "<lambda>" (X.env.qual ++ "<lambda>") params body scope (cloFrom X.env.cells scope.names []) pm c' ctv)) (hfn : H f = none) (hfr : f ∉ frs X.stack) (hco : H c' = some (CodeO c' (X.env.qual ++ "<lambda>")))
    (hbind : ∀ v : Value, bindArgs (PySem.W.kla_fn "<lambda>" (X.env.qual ++ "<lambda>") params body scope (cloFrom X.env.cells scope.names []) pm (.ref c') ctv) ⟨[v], []⟩ = pure [(y, v)])
    (hbody : ∀ (A : Around) (s : Shared) (H : Hp), Room k (A.deeper (lamEnv X scope s.heap.objs.size f c')) → PE (lamCx X A X.stack s H C8.E0 scope f c') body tb)
    (hj : X.N[j]? = some y) (hN : ∀ i, X.N[i]? = some y → i = j) (hT : Tabs T H)
    (turn : ∀ (i : Nat) (x : V) (d : PyData) (H' : Hp), xs[i]? = some x → ks[i]? = some d → R H H' → Tabs T H' → tb (σ.set j (some x)) H' fun v H'' => R H' H'' ∧ Tabs T H'' ∧ KeyV X.K H'' v d)
    (cont : ∀ D H', R H H' → Tabs T H' → H D = none → H' D = none → Q (.ref D) (upd H' D (.lst (srtV xs ks)))) :
    wpAny (model X.prog X.w) X.A (call (.builtin "sorted") [.ref l] [(Str.ofString "key", .ref f)]) (EP X pins σ Q) X.xe s := by
  obtain ⟨vs, rv, pl, hZ0⟩ := I.list hl
  have hlen := Vals.length rv
  have hZ : vs.length ≤ sizeLine := by rw [← hlen]; exact hZ0
  have szc : (PySem.W.copyHeap s.heap vs).objs.size = s.heap.objs.size + 2 := by
    show (((s.heap.push _).update _ _).push _).objs.size = _
    rw [size_push', Heap.size_update, size_push']
  -- the lambda is pinned
  have hfL : f ≠ X.env.locals := fun z => by
    obtain ⟨m, ⟨o, es, ep, ho, r⟩, _⟩ := I.loc
    rw [← z, hf] at ho
    have := r
    cases ho
    simp at r
  have hfF : f ∉ X.fs := fun z => hfr (by
    rcases I.ok.stk with e | ⟨e, _⟩
    · rw [e]; exact z
    · rw [e]; unfold frs; rw [List.filterMap_cons]
      split
      · exact z
      · exact List.mem_cons_of_mem _ z)
  let fo : Obj := PySem.W.kla_obj "<lambda>" (X.env.qual ++ "<lambda>") params body scope (cloFrom X.env.cells scope.names []) pm c' ctv
  have I1 : Inv X ((f, fo) :: pins) σ H s := I.pins_of fun p hp => by
    rcases List.mem_cons.mp hp with rfl | hp
    · exact ⟨hf, hfn, hfL, hfF, fun v z => by cases z⟩
    · exact I.pin p (List.mem_append_right _ hp)
  have na0 : H (s.heap.objs.size + 1) = none := I.hok.fresh (Nat.le_succ _)
  have fpa := I1.fpOk (H' := H) (b := s.heap.objs.size + 1) (Nat.le_succ _) na0
  -- the sort
  refine PySem.W.sorted_of_sort pl.isList hZ (PyProof.Rows.ksk_s1 _ _) (fun _ => PyProof.Rows.ksk_l1 _ _) fun E' => ?_
  rw [PyProof.Rows.ksk_t1]
  have ho := PySem.W.copyHeap_at s.heap vs
  obtain ⟨e1, ho1⟩ : ∃ e1, ((PySem.W.copyHeap s.heap vs).update (s.heap.objs.size + 1) (Obj.mapSeq fun _ => (#[] : Array Value))).get? (s.heap.objs.size + 1) = some (seqObj "list" #[] e1) := ⟨_, get?_update_seq ho fun _ => #[]⟩
  unfold ksk_tree
  refine wpAny_bind (listItems_at ho rfl ?_)
  refine wpAny_bind (listUpdate_at ho rfl ?_ (by rw [List.size_toArray]; exact hZ) (Nat.zero_le _))
  refine wpAny_bind (seqEpoch_at ho1 rfl ?_)
  refine wpAny_bind (wpAny_newTuple ?_ (by show vs.length ≤ _; exact hZ))
  refine wpAny_bind (wpAny_newList ?_ (Nat.zero_le _))
  refine wpAny_holding ?_
  have keep : ∀ b u, s.heap.get? b = some u → ((((PySem.W.copyHeap s.heap vs).update (s.heap.objs.size + 1) (Obj.mapSeq fun _ => (#[] : Array Value))).push (seqObj "tuple" vs.toArray 0)).push (seqObj "list" #[] 0)).get? b = some u := fun b u e =>
    PySem.W.sortingHeap_old (Nat.ne_of_lt (Nat.lt_succ_of_lt (Heap.lt_size e))) (PySem.W.copyHeap_old e)
  have szk : (((PySem.W.copyHeap s.heap vs).update (s.heap.objs.size + 1) (Obj.mapSeq fun _ => (#[] : Array Value))).push (seqObj "tuple" vs.toArray 0)).objs.size = s.heap.objs.size + 3 := by
    rw [size_push', Heap.size_update, szc]
  have hkS : ((((PySem.W.copyHeap s.heap vs).update (s.heap.objs.size + 1) (Obj.mapSeq fun _ => (#[] : Array Value))).push (seqObj "tuple" vs.toArray 0)).push (seqObj "list" #[] 0)).get? (((PySem.W.copyHeap s.heap vs).update (s.heap.objs.size + 1) (Obj.mapSeq fun _ => (#[] : Array Value))).push (seqObj "tuple" vs.toArray 0)).objs.size = some (seqObj "list" #[] 0) := Heap.get?_push_size _ rfl
  have ha3 : ((((PySem.W.copyHeap s.heap vs).update (s.heap.objs.size + 1) (Obj.mapSeq fun _ => (#[] : Array Value))).push (seqObj "tuple" vs.toArray 0)).push (seqObj "list" #[] 0)).get? (s.heap.objs.size + 1) = some (seqObj "list" #[] e1) := Heap.get?_push_of_some _ (Heap.get?_push_of_some _ ho1)
  have gek : s.heap.objs.size ≤ (((PySem.W.copyHeap s.heap vs).update (s.heap.objs.size + 1) (Obj.mapSeq fun _ => (#[] : Array Value))).push (seqObj "tuple" vs.toArray 0)).objs.size := by rw [szk]; omega
  have hka : (((PySem.W.copyHeap s.heap vs).update (s.heap.objs.size + 1) (Obj.mapSeq fun _ => (#[] : Array Value))).push (seqObj "tuple" vs.toArray 0)).objs.size ≠ s.heap.objs.size + 1 := by rw [szk]; omega
  generalize ((((PySem.W.copyHeap s.heap vs).update (s.heap.objs.size + 1) (Obj.mapSeq fun _ => (#[] : Array Value))).push (seqObj "tuple" vs.toArray 0)).push (seqObj "list" #[] 0)) = h3 at keep hkS ha3 ⊢
  generalize (((PySem.W.copyHeap s.heap vs).update (s.heap.objs.size + 1) (Obj.mapSeq fun _ => (#[] : Array Value))).push (seqObj "tuple" vs.toArray 0)).objs.size = kS at hkS gek hka ⊢
  have nk0 : H kS = none := I.hok.fresh gek
  have fpk := I1.fpOk (H' := H) (b := kS) gek nk0
  generalize ea : s.heap.objs.size + 1 = a at *
  have sub : ∀ {H' : Hp} {s' : Shared} {q : List (Addr × Obj)}, Inv X (q ++ (f, fo) :: pins) σ H' s' → Inv X ((f, fo) :: pins) σ H' s' := fun J => J.pins_of fun p hp => J.pin p (List.mem_append_right _ (List.mem_append_right _ hp))
  refine keyJ_rest (kz := ks) (kS := kS) (a := a) (J := fun i kA s' => ∃ (H' : Hp) (e : Nat) (ys : List V), Inv X ((f, fo) :: pins) σ H' s' ∧ s'.heap.get? kS = some (seqObj "list" kA e) ∧ s'.heap.get? a = some (seqObj "list" #[] e1) ∧ H' kS = none ∧ H' a = none ∧ R H H' ∧ Tabs T H' ∧ kA.size = i ∧ Vals ys kA.toList ∧ KeyVs X.K H' ys (ks.take i))
    hka (hks.trans hlen) hZ hal hsk (fun d hd => hu d hd) (fun i kA s' ⟨H', e, ys, _, k1, k2, _, _, _, _, hz, _⟩ => ⟨e, k1, k2, hz⟩) (fun i v kA s' hv hJ => ?_) (fun kA s' hJ => ?_) ⟨H, 0, [], I1.kept keep, hkS, ha3, nk0, na0, hR0, hT, rfl, .nil, .nil⟩
  · obtain ⟨H', e, ys, I', k1, k2, n1, n2, eN, T', hz, ry, ky⟩ := hJ
    obtain ⟨x, hx, rx⟩ := vals_at rv hv
    have hi : i < ks.length := by rw [hks]; exact (List.getElem?_eq_some_iff.mp hx).1
    have hd : ks[i]? = some ks[i] := List.getElem?_eq_getElem hi
    generalize ks[i] = d at hd
    have I2 : Inv X ([(a, seqObj "list" #[] e1), (kS, seqObj "list" kA e)] ++ (f, fo) :: pins) σ H' s' := I'.pins_of fun p hp => by
      rcases List.mem_cons.mp hp with rfl | hp
      · exact ⟨k2, n2, fpa.2.1, fpa.2.2.1, fun v z => by cases z⟩
      · rcases List.mem_cons.mp hp with rfl | hp
        · exact ⟨k1, n1, fpk.2.1, fpk.2.2.1, fun v z => by cases z⟩
        · exact I'.pin p (List.mem_append_right _ hp)
    have hf2 := (I'.pin (f, fo) (List.mem_append_right _ (List.mem_cons_self ..))).1
    refine wpAny_mono (lam1_call I2 ⟨hr.in1.in1, rfl⟩ L hf2 (hRe eN _ _ hco codeO_ne codeO_nl) (hbind v) hbody rx hj hN (turn i x d H' hx hd eN T')) (fun u s2 ⟨yv, H2, J2, ry2, e2, T2, kv⟩ => ?_) fun _ _ z => z
    have p2 := (J2.pin (kS, seqObj "list" kA e) (List.mem_append_right _ (List.mem_append_left _ (List.mem_cons_of_mem _ (List.mem_cons_self ..)))))
    have p1 := (J2.pin (a, seqObj "list" #[] e1) (List.mem_append_right _ (List.mem_append_left _ (List.mem_cons_self ..))))
    have s1 := Heap.SameBut.update s2.heap kS (Obj.mapSeq (·.push u))
    obtain ⟨c2, hc2⟩ : ∃ c2, (s2.heap.update kS (Obj.mapSeq (·.push u))).get? kS = some (seqObj "list" (kA.push u) c2) := ⟨_, get?_update_seq p2.1 (·.push u)⟩
    have J3 := (sub J2).turnedL (t' := s2.toks) (ch := [kS]) (h' := s2.heap.update kS (Obj.mapSeq (·.push u))) (fun b o hb q => (s1.2 b (fun z => hb (by rw [z]; exact List.mem_cons_self ..))).trans q) (fun b hb => by
      obtain rfl := List.mem_singleton.mp hb
      exact fp_next fpk p2.2.1)
    have et : ks.take (i + 1) = ks.take i ++ [d] := by rw [List.take_add_one, hd]; rfl
    refine ⟨e, p2.1, H2, c2, ys ++ [yv], J3, hc2, (s1.2 a hka.symm).trans p1.1, p2.2.1, p1.2.1, hRt eN e2, T2, by rw [Array.size_push, hz], ?_, ?_⟩
    · rw [show (kA.push u).toList = kA.toList ++ [u] by simp]
      exact vals_snoc ry2 ry
    · rw [et]
      exact KeyVs.snoc kv (ky.ext (hRe e2))
  · obtain ⟨H', e, ys, I', k1, k2, n1, n2, eN, T', hz, ry, ky⟩ := hJ
    rw [List.take_of_length_le (by omega)] at ky
    refine ⟨KeyVs.reads I' ky ry, fun h' tk out c kp hD ko => ⟨rfl, ?_⟩⟩
    have eo := PySem.W.keyedOut_each Prod.snd (bs := xs.zip ks) (by rw [zip_snd hks]; exact ko) (each_zip rv hks)
    have vo : Vals (srtV xs ks) out := each_vals eo
    have I5 := adopt (t' := tk) (h' := h') (ch := [a, kS]) (T := a) (ob := .lst (srtV xs ks)) I' (fun b o hb q => kp b o (fun z => hb (by rw [z]; exact List.mem_cons_self ..)) (fun z => hb (by rw [z]; exact List.mem_cons_of_mem _ (List.mem_cons_self ..))) q) (fun b hb => by
      rcases List.mem_cons.mp hb with rfl | hb
      · exact fp_next fpa n2
      · obtain rfl := List.mem_singleton.mp hb
        exact fp_next fpk n1) (List.mem_cons_self ..) ⟨by rw [srtV_len hks]; exact hZ0, out, c, vo, hD⟩
    exact ⟨.ref a, _, I5.pins_of fun p hp => I5.pin p (List.mem_append_right _ (List.mem_cons_of_mem _ hp)), rfl, cont a H' eN T' na0 n2⟩
end
end ZL

namespace ZL
open PySem PySem.Spec PyProof.Rows L2 LamX
def srtB (K : PySem.W.Frag) (T : List (Addr × Str)) (j : Nat) (tb : TE) (σ : L2.St) (Q : VK) (l : V) (H1 : Hp) : Prop := ∃ (a : Addr) (xs : List V) (ks : List PyData) (R : Hp → Hp → Prop), l = .ref a ∧ SqL K H1 a xs ∧ ks.length = xs.length ∧ PySem.W.AllAlike ks ∧ PySem.W.Sortable ks ∧ (∀ d ∈ ks, d.depth ≤ 2) ∧
  Tabs T H1 ∧ (∀ {H2}, R H1 H2 → R H2 H2) ∧ (∀ {H1 H2 H3}, R H1 H2 → R H2 H3 → R H1 H3) ∧ (∀ {H1 H2}, R H1 H2 → ExtT H1 H2) ∧ (∀ {H2}, ExtN H1 H2 → Tabs T H2 → R H1 H2) ∧
  (∀ (i : Nat) (x : V) (d : PyData) (H' : Hp), xs[i]? = some x → ks[i]? = some d → R H1 H' → Tabs T H' → tb (σ.set j (some x)) H' fun v H'' => R H' H'' ∧ Tabs T H'' ∧ KeyV K H'' v d) ∧
  ∀ D H', R H1 H' → Tabs T H' → H' D = none → Q (.ref D) (upd H' D (.lst (srtV xs ks)))
def tSrtK (K : PySem.W.Frag) (T : List (Addr × Str)) (j : Nat) (ta tb : TE) : TE := fun σ H Q => ta σ H (srtB K T j tb σ Q)
theorem sqL_ext {K : PySem.W.Frag} {H H' : Hp} {a : Addr} {xs : List V} (h : SqL K H a xs) (e : ExtN H H') : SqL K H' a xs := by
  rcases h with (h | ⟨o, h⟩) | h
  · exact .inl (.inl (e _ _ h fun ps z => by cases z))
  · exact .inl (.inr ⟨o, e _ _ h fun ps z => by cases z⟩)
  · exact .inr h
def srtB1 (K : PySem.W.Frag) (T : List (Addr × Str)) (j : Nat) (tb : TE) (σ : L2.St) (Q : VK) : List V → Hp → Prop
  | [l], H1 => srtB K T j tb σ Q l H1
  | _, _ => False
theorem srtB_at {K : PySem.W.Frag} {T : List (Addr × Str)} {j : Nat} {tb : TE} {σ : L2.St} {Q : VK} {vs : List V} {H : Hp} (h : srtB1 K T j tb σ Q vs H) : ∃ v, vs = [v] ∧ srtB K T j tb σ Q v H := by
  match vs, h with
  | [v], h => exact ⟨v, rfl, h⟩
theorem vals_one {v : V} {us : List Value} (h : Vals [v] us) : ∃ u, us = [u] ∧ RelV v u := by
  cases h with
  | cons r t => cases t; exact ⟨_, rfl, r⟩
theorem kw_all {e : Expr} {env : Env} {pos kpos : Pos} : (backToKw pos (keywordEach [⟨some "key", e, kpos⟩] env)).all (·.1.isSome) = true := by rfl
theorem kw_none {e : Expr} {env : Env} {pos kpos : Pos} : (backToKw pos (keywordEach [⟨some "key", e, kpos⟩] env)).any (·.1.isNone) = false := by rfl
section
variable {X : Cx}
theorem pe_srtK {T : List (Addr × Str)} {c P : Addr} {k : Nat} {params : Arguments} {body e : Expr} {scope : Scope} {y : Str} {j : Nat} {ta tb : TE} {p kpos lpos pos : Pos} (hg : Gl X "sorted") (hm : X.mg "sorted" = none) (ha : PE X e ta)
    (TB : TabB X.base X.mg c P) (hcode : X.env.code = .ref c) (hmT : (P, X.env.qual ++ "<lambda>") ∈ T) (hu : ∀ p ∈ T, p.1 = P → p.2 = X.env.qual ++ "<lambda>") (hr : Room (k + 3) X.A) (L : LamS1 X.env.scope scope y) (hdef : defaultsOf params X.env = ([], []))
    (hbind : ∀ (q : Str) (cl : List (Str × Addr)) (pm cv ctv v : Value), bindArgs (PySem.W.kla_fn "<lambda>" q params body scope cl pm cv ctv) ⟨[v], []⟩ = pure [(y, v)])
    (hbody : ∀ (A : Around) (s : Shared) (H : Hp) (f c' : Addr), Room k (A.deeper (lamEnv X scope s.heap.objs.size f c')) → PE (lamCx X A X.stack s H C8.E0 scope f c') body tb)
    (hj : X.N[j]? = some y) (hN : ∀ i, X.N[i]? = some y → i = j)
    (hs : starEach [e] X.env = (false, eval e X.env) :: starEach [] X.env := by rfl) (he : backTo pos (starEach [e] X.env) = (false, eval e X.env) :: backTo pos (starEach [] X.env) := by rfl) (hpl : (backTo pos (starEach [e] X.env)).any (·.1) = false := by rfl) :
    PE X (.Call (.Name "sorted" p) [e] [⟨some "key", .Lambda params body scope lpos, kpos⟩] pos) (tSrtK X.K T j ta tb) := by
  refine ⟨fun pins s σ H Q I h => ?_⟩
  refine wpAny_Call_Name_kw (ld_blt I hg hm (u := .builtin "sorted") (by rfl) ?_)
  refine PyProof.Rows.callWith_kw (thn ((pa_cons ha pa_nil hs).run pos pins s σ H (srtB1 X.K T j tb σ Q) I h) fun us s1 ⟨vs, H1, I1, r1, q1⟩ => ?_) he hpl kw_all kw_none
  obtain ⟨v, rfl, q1⟩ := srtB_at q1
  obtain ⟨u, rfl, ru⟩ := vals_one r1
  · clear h hs he hpl ha
    obtain ⟨a, xs, ks, R, rfl, hl, hks, hal, hsk, hdp, hT, R0, Rt, Re, Rn, turn, cont⟩ := q1
    obtain rfl : u = .ref a := ru
    show wpAny _ _ (evalAll ((do let v ← eval (.Lambda params body scope lpos) X.env; standAt pos; pure v) :: [])) _ _ s1
    refine wpAny_evalAll_cons (wpAny_bind (lam_make2 I1 TB hcode hmT hu hT hdef (L.has I1.ok) fun f c' pm ctv H2 s2 I2 eN T2 hf hfn hfr hco => wpAny_bind (wpAny_standAt (wpAny_pure (wpAny_evalAll_nil ?_)))))
    show wpAny _ _ (call (.builtin "sorted") [.ref a] [(Str.ofString "key", .ref f)]) _ _ _
    exact srt_call (R := R) (R0 (Rn eN T2)) Rt Re I2 hr (sqL_ext hl eN) hks hal hsk (fun d hd => by have h1 := hdp d hd; have h2 := hr.un; refine Nat.lt_of_le_of_lt ?_ h2; clear h2; omega) L hf hfn hfr hco (fun v => hbind _ _ _ _ _ v) (fun A s H hr2 => hbody A s H f c' hr2) hj hN T2
      (fun i x d H' hx hd hR T' => turn i x d H' hx hd (Rt (Rn eN T2) hR) T') (fun D H' hR T' _ n => cont D H' (Rt (Rn eN T2) hR) T' n)
end
end ZL

namespace ZL
open PySem PySem.Spec PyProof.Rows L2 LamX
def LamF (base : Heap) (mg : Str → Option Value) (T : List (Addr × Str)) (fd : FuncData) (q : Str) : Prop := ∃ c0 P0 : Addr, fd.code = .ref c0 ∧ TabB base mg c0 P0 ∧ (P0, (q ++ ".<locals>.") ++ "<lambda>") ∈ T ∧ ∀ p ∈ T, p.1 = P0 → p.2 = (q ++ ".<locals>.") ++ "<lambda>"
theorem at_inj {N : List Str} {y : Str} {j : Nat} (nd : N.Nodup) (h : N[j]? = some y) : ∀ i, N[i]? = some y → i = j := fun i e => by
  obtain ⟨l1, e1⟩ := List.getElem?_eq_some_iff.mp e
  obtain ⟨l2, e2⟩ := List.getElem?_eq_some_iff.mp h
  by_cases q : i = j
  · exact q
  · exact absurd (e1.trans e2.symm) (by
      have := List.pairwise_iff_getElem.mp nd
      rcases Nat.lt_or_gt_of_ne q with h1 | h1
      · exact this i j l1 l2 h1
      · exact fun z => this j i l2 l1 h1 z.symm)
theorem hu_of {T : List (Addr × Str)} {P : Addr} {q : Str} (nd : (T.map (·.1)).Nodup) (h : (P, q) ∈ T) : ∀ p ∈ T, p.1 = P → p.2 = q := fun p hp e => by
  induction T with
  | nil => cases h
  | cons z T ih =>
    rw [List.map_cons, List.nodup_cons] at nd
    rcases List.mem_cons.mp h with h | h <;> rcases List.mem_cons.mp hp with hp | hp
    · rw [hp, ← h]
    · refine absurd ?_ nd.1
      rw [← h, show ((P, q) : Addr × Str).1 = P from rfl, ← e]
      exact List.mem_map_of_mem (f := (·.1)) hp
    · refine absurd ?_ nd.1
      rw [← hp, e]
      exact List.mem_map_of_mem (f := (·.1)) h
    · exact ih nd.2 h hp
def codeTail (vs : Array Value) (c P : Addr) : Bool := (match (vs[11]? : Option Value) with | some (.ref P') => P' == P | _ => false) &&
  (match vs.getD 18 .none with | .str _ _ => true | _ => false) && (match vs.getD 7 .none with | .int _ _ => true | _ => false) &&
  (match vs.getD 9 .none with | .bool _ => true | _ => false) && (match vs.getD 10 .none with | .int _ _ => true | _ => false) && c != P
theorem codeHd_at {K : PySem.W.Frag} {h : Heap} {c P : Addr} {dd : Option Addr} {vs : Array Value} {ss : Array (Option Value)} (X : K.In h) (hl : K.lookup c = some ⟨.type "code", dd, .fields vs, ss⟩) (ht : codeTail vs c P = true) : PySem.W.CodeHd h c P := by
  refine PySem.W.codeHd_of_K X ?_
  unfold PySem.W.codeHdIn
  rw [hl]
  exact ht
section
variable {P : Program} {w : World} {K : PySem.W.Frag} {mg : Str → Option Value} {base : Heap}
theorem okL {T : List (Addr × Str)} {x qual : Str} {st : Stmt} {f : Addr} {fd : FuncData} {N ps : List Str} {k : Nat} {sp : Sp} (F : Fun K x qual st f fd) (L : LamF base mg T fd qual) (S : FnScope N ps (defScope st)) (len : ∀ vs H Q E, sp vs H Q E → vs.length = ps.length)
    (hbody : ∀ (c0 P0 : Addr) (TB : TabB base mg c0 P0) (hm : (P0, (qual ++ ".<locals>.") ++ "<lambda>") ∈ T) (hu : ∀ p ∈ T, p.1 = P0 → p.2 = (qual ++ ".<locals>.") ++ "<lambda>") (A : Around) (outer : List Env) (s : Shared) (H : Hp) (vs : List V) (Q : VK) (E : XK), Room k (A.deeper (envOfC qual (defScope st) s.heap.objs.size f (.ref c0))) → sp vs H Q E →
      ∃ t, PSs (cxOf CX0 P w K mg base N qual (defScope st) f (.ref c0) A outer s H E).nox (defBody st) t ∧ t { nx := fun _ H' => Q .non H', rt := Q } (start N vs) H) : FnOk P w K mg base CX0 (k + 1) f fd ps sp := by
  obtain ⟨c0, P0, hc, TB, hm, hu⟩ := L
  obtain ⟨oc, od, kV, doc, pm, an, cdv, ct, osl, rfl, lk, hcd⟩ := F.ex
  have hc : cdv = .ref c0 := hc
  subst hc
  refine fn_of lk hcd S len fun A outer s H vs Q E hr hsp => ?_
  obtain ⟨t, h, q⟩ := hbody c0 P0 TB hm hu A outer s H vs Q E hr hsp
  exact ⟨t, h.nox, q⟩
end
end ZL

def keyF : Da → Option PyData
  | .bl b => some (.bool b)
  | .int i => some (.int i)
  | .str x => some (.str x)
  | _ => none
def keyD : Da → PyData
  | .bl b => .bool b
  | .int i => .int i
  | .str x => .str x
  | .tup [x, y] => .tuple [(keyF x).getD .none, (keyF y).getD .none]
  | _ => .none
def keyOk : Da → Bool
  | .bl _ => true | .int _ => true | .str _ => true
  | .tup [x, y] => (keyF x).isSome && (keyF y).isSome
  | _ => false
theorem keyD_depth {d : Da} (h : keyOk d = true) : (keyD d).depth ≤ 2 := by
  unfold keyOk at h
  split at h
  · unfold keyD; decide +revert
  · unfold keyD; simp [PyData.depth]
  · unfold keyD; simp [PyData.depth]
  · rename_i x y
    rw [Bool.and_eq_true] at h
    have hx : ((keyF x).getD .none).depth ≤ 1 := by
      unfold keyF; cases x <;> simp [PyData.depth]
    have hy : ((keyF y).getD .none).depth ≤ 1 := by
      unfold keyF; cases y <;> simp [PyData.depth]
    unfold keyD
    simp only [PyData.depth, PyData.depthAll] at *
    omega
  · cases h
theorem keyV_of {K : PySem.W.Frag} {c : CEnv} {S : Option Addr} {G H : Hp} {v : V} {d : Da} (s : Same G H) (r : Rp K c S G v d) (h : keyOk d = true) : ZL.KeyV K H v (keyD d) := by
  have one : ∀ {u : V} {e : Da}, Rp K c S G u e → (keyF e).isSome = true → ZL.KeyV K H u ((keyF e).getD .none) := fun {u e} r h => by
    cases e <;> first | (cases h; done) | skip
    · cases r; exact .bl _
    · cases r; exact .int _
    · cases r; exact .str _
  unfold keyOk at h
  split at h
  · cases r; exact .bl _
  · cases r; exact .int _
  · cases r; exact .str _
  · rw [Bool.and_eq_true] at h
    obtain ⟨a, xs, rfl, e, rr⟩ := rpT r
    obtain ⟨u, w1, rfl, r1, rr⟩ := rpsC rr
    obtain ⟨u2, w2, rfl, r2, rr⟩ := rpsC rr
    obtain rfl := rps0 rr
    exact .tup2 (Same.sqT s e) (one r1 h.1) (one r2 h.2)
  · cases h
noncomputable def srtD (ds : List Da) (ks : List PyData) : List Da := ((ds.zip ks).mergeSort (PySem.W.dataLe false Prod.snd)).map Prod.fst
section
variable {K : PySem.W.Frag} {c : CEnv} {S : Option Addr} {G : Hp}
theorem rpsMap3 : ∀ (L : List ((V × Da) × PyData)), (∀ p ∈ L, Rp K c S G p.1.1 p.1.2) → RpA K c S G (L.map fun p => p.1.1) (L.map fun p => p.1.2)
  | [], _ => .nil
  | p :: L, h => .cons (h p (List.mem_cons_self ..)) (rpsMap3 L fun q hq => h q (List.mem_cons_of_mem _ hq))
theorem rps_zip3 : ∀ {xs : List V} {ds : List Da} {ks : List PyData}, RpA K c S G xs ds → ks.length = ds.length → ∃ L : List ((V × Da) × PyData), (∀ p ∈ L, Rp K c S G p.1.1 p.1.2) ∧ L.map (fun p => (p.1.1, p.2)) = xs.zip ks ∧ L.map (fun p => (p.1.2, p.2)) = ds.zip ks
  | _, [], [], r, _ => by rw [rps0 r]; exact ⟨[], fun _ h => (nomatch h), rfl, rfl⟩
  | _, _ :: _, [], _, h => by simp at h
  | _, [], _ :: _, _, h => by simp at h
  | _, d :: ds, k :: ks, r, h => by
    obtain ⟨v, ws, rfl, r1, r2⟩ := rpsC r
    obtain ⟨L, h1, h2, h3⟩ := rps_zip3 r2 (by simpa using h)
    refine ⟨((v, d), k) :: L, fun p hp => ?_, by simp [h2], by simp [h3]⟩
    rcases List.mem_cons.mp hp with rfl | hp
    · exact r1
    · exact h1 p hp
theorem rps_srt {xs : List V} {ds : List Da} {ks : List PyData} (r : RpA K c S G xs ds) (h : ks.length = ds.length) : RpA K c S G (ZL.srtV xs ks) (srtD ds ks) := by
  obtain ⟨L, h1, h2, h3⟩ := rps_zip3 r h
  let s : ((V × Da) × PyData) → ((V × Da) × PyData) → Bool := PySem.W.dataLe false Prod.snd
  have e1 : (xs.zip ks).mergeSort (PySem.W.dataLe false Prod.snd) = (L.mergeSort s).map (fun p => (p.1.1, p.2)) := by
    rw [← h2]
    exact (List.map_mergeSort (r := s) (s := PySem.W.dataLe false Prod.snd) (f := fun p : (V × Da) × PyData => (p.1.1, p.2)) (l := L) (fun a _ b _ => rfl)).symm
  have e2 : (ds.zip ks).mergeSort (PySem.W.dataLe false Prod.snd) = (L.mergeSort s).map (fun p => (p.1.2, p.2)) := by
    rw [← h3]
    exact (List.map_mergeSort (r := s) (s := PySem.W.dataLe false Prod.snd) (f := fun p : (V × Da) × PyData => (p.1.2, p.2)) (l := L) (fun a _ b _ => rfl)).symm
  unfold ZL.srtV srtD
  rw [e1, e2, List.map_map, List.map_map]
  exact rpsMap3 _ fun p hp => h1 p ((List.mergeSort_perm L s).mem_iff.mp hp)
end
section
variable {N : Cn}
def pSrtK (j : Nat) (a b : PEx) : PEx := fun ρ Q => a ρ fun l => ∃ ds ks : List Da, l = .lst ds ∧ ks.length = ds.length ∧ (∀ (i : Nat) (d k : Da), ds[i]? = some d → ks[i]? = some k → b (ρ.set j (some (.d d))) fun y => y = k) ∧ (∀ k ∈ ks, keyOk k = true) ∧ PySem.W.AllAlike (ks.map keyD) ∧ PySem.W.Sortable (ks.map keyD) ∧ Q (.lst (srtD ds (ks.map keyD)))
theorem Draw.extN {H H' : Hp} {st L : Addr} (x : LamX.ExtN H H') (d : Draw H st L) : Draw H' st L := by
  obtain ⟨ns, k, a, e, s, n, hk, ha⟩ := d.ex
  exact ⟨ns, k, a, x _ _ e (fun _ z => (nomatch z)), x _ _ s (fun _ z => (nomatch z)), n, hk, ha⟩
theorem sim_srtK {j : Nat} {ta tb : TE} {a b : PEx} (ha : SimE N ta a) (hb : SimE N tb b) : SimE N (ZL.tSrtK N.K N.c.tb j ta tb) (pSrtK j a b) := by
  intro w H0 B aw ow H σ ρ Q Q' r z k
  refine ha w H0 B aw ow H σ ρ _ _ r z fun l d H1 r1 s1 h1 ⟨ds, ks, e, hl, turn, ok, al, so, q⟩ => ?_
  subst e
  obtain ⟨p, xs, rfl, e1, rr⟩ := rpL h1
  have hlen := rpsLen rr
  refine ⟨p, xs, ks.map keyD, fun H H' => Ex w.S H H' ∧ ∀ st L, w.S = some (st, L) → Draw H st L, rfl, SqL.of (hid_le _ _ e1), by rw [List.length_map, hl, hlen], al, so, fun d hd => ?_, r1.tb, fun {H2} x => ⟨Ex.of (Same.refl _) fun st L e => x.1.2 st L e, fun st L e => x.1.2 st L e⟩, fun {A B C} x y => ⟨Ex.trans x.1 y.1, x.2⟩, fun {A B} x => ?_, fun {H2} x t => ⟨⟨fun a o _ n e => x a o e n, fun st L e => (r1.dr st L e).1.extN x⟩, fun st L e => (r1.dr st L e).1⟩, ?_, ?_⟩
  · obtain ⟨k, hk, rfl⟩ := List.mem_map.mp hd
    exact keyD_depth (ok k hk)
  · intro b o e n1 n2
    refine x.1.1 b o (fun st L es z => ?_) n1 e
    obtain ⟨ns, kk, aa, e3, _⟩ := (x.2 st L es).ex
    rw [← z, e] at e3
    exact n2 _ (Option.some.inj e3)
  · intro i x dk H' hx hd hR T'
    rw [List.getElem?_map] at hd
    cases ek : ks[i]? with
    | none => rw [ek] at hd; cases hd
    | some kd =>
      rw [ek] at hd
      cases hd
      obtain ⟨d, ed, rd⟩ := rpsGetV rr hx
      have r2 := (r1.ex hR.1 T').set j (rpS (hR.1.dh r1) rd)
      refine hb w H0 B aw ow H' _ _ _ _ r2 (turn i d kd ed ek) fun v y H'' r3 s3 h3 q3 => ?_
      have q3 : y = kd := q3
      subst q3
      exact ⟨⟨s3, fun st L e => hR.1.2 st L e⟩, r3.tb, keyV_of hid_le h3 (ok _ (List.mem_of_getElem? ek))⟩
  · intro D H' hR T' hD
    exact (k.then (Ex.trans s1 hR.1) fun _ q => q).newL (r1.ex hR.1 T') (rps_srt (rpsS (hR.1.dh r1) rr) (by rw [List.length_map]; exact hl)) q hD
end
theorem p_srtK {j : Nat} {a b : PEx} {ρ : PEnv} {Q : Da → Prop} (h : a ρ fun l => ∃ ds ks : List Da, l = .lst ds ∧ ks.length = ds.length ∧ (∀ (i : Nat) (d k : Da), ds[i]? = some d → ks[i]? = some k → b (ρ.set j (some (.d d))) fun y => y = k) ∧ (∀ k ∈ ks, keyOk k = true) ∧ PySem.W.AllAlike (ks.map keyD) ∧ PySem.W.Sortable (ks.map keyD) ∧ Q (.lst (srtD ds (ks.map keyD)))) : pSrtK j a b ρ Q := h

section
variable {α : Type} {le : α → α → Bool}
end

section
variable {X : Cx}
end
section
variable {N : Cn}
end

section
open PySem.W (dataLe dataLt)
theorem dataLe_def {α : Type} (k : α → PyData) (a b : α) : dataLe false k a b = !dataLt (k b) (k a) := rfl
theorem srtD_map {α : Type} (l : List α) (d k : α → Da) : srtD (l.map d) ((l.map k).map keyD) = (l.mergeSort (dataLe false fun a => keyD (k a))).map d := by
  unfold srtD
  rw [show (l.map d).zip ((l.map k).map keyD) = l.map fun a => (d a, keyD (k a)) by rw [List.map_map, List.zip_map']; rfl]
  rw [← List.map_mergeSort (r := dataLe false fun a => keyD (k a)) (f := fun a => (d a, keyD (k a))) (l := l) (fun a _ b _ => rfl), List.map_map]
  rfl
end
def rSortedD (K : PySem.W.Frag) : List V → Hp → VK → Prop := fun vs H Q => ∃ (a : Addr) (xs : List V) (ds : List PyData), vs = [V.ref a] ∧ SqL K H a xs ∧ DpAll K H xs ds ∧ PySem.W.AllAlike ds ∧ PySem.W.Sortable ds ∧ (∀ d ∈ ds, d.depth ≤ 16) ∧ ∀ p, H p = none → Q (.ref p) (upd H p (.lst (ZL.srtV xs ds)))
theorem dps_len {K : PySem.W.Frag} {H : Hp} : ∀ {xs : List V} {ds : List PyData}, DpAll K H xs ds → ds.length = xs.length
  | [], _, h => by cases h; rfl
  | _ :: _, _, h => by cases h with | cons _ b => rw [List.length_cons, List.length_cons, dps_len b]
theorem each_dps {X : Cx} {pins : List (Addr × Obj)} {σ : L2.St} {H : Hp} {s : Shared} (I : L2.Inv X pins σ H s) : ∀ {xs : List V} {us : List Value} {ds : List PyData}, Vals xs us → DpAll X.K H xs ds → PySem.W.EachIs (fun v (b : V × PyData) => ∃ as, Reads s.heap v b.2 as) us (xs.zip ds)
  | [], _, _, h, g => by cases h; cases g; exact .nil
  | x :: xs, _, _, h, g => by
    cases h with
    | cons r t =>
      cases g with
      | cons a b => exact .cons (Dp.reads I _ _ _ a r) (each_dps I t b)
theorem room18 {n b : Nat} (hu : n + 64 < cLine) (h : b ≤ 16) : n + 2 + b < cLine := by omega
theorem cr_sortedD {X : Cx} (hu : X.A.units + 64 < cLine) : CallR X (.builtin "sorted") (rSortedD X.K) := by
  intro pins s σ H vs us Q I r h
  obtain ⟨a, xs, ds, rfl, hs, hd, al, so, dp, q⟩ := h
  obtain ⟨its, rv, hl, hz⟩ := I.list hs
  rw [Vals.ref1 r]
  have len := dps_len hd
  have em : (xs.zip ds).map Prod.snd = ds := List.map_snd_zip (Nat.le_of_eq len)
  refine PySem.W.sorted_data (R := fun v (p : V × PyData) => RelV p.1 v) (enc := Prod.snd) (bs := xs.zip ds) hl.isList (ZL.each_zip rv len) (each_dps I rv hd) (by rw [em]; exact al) (by rw [em]; exact so) (by rw [List.length_zip, len, Nat.min_self]; exact hz) (fun b hb => room18 hu (dp _ (List.of_mem_zip hb).2)) fun out h1 h2 => ?_
  have vo : Vals (ZL.srtV xs ds) out := ZL.each_vals h2
  obtain ⟨ep, he'⟩ := PyProof.Rows.sortedAll_at s.heap its out.toArray
  exact ⟨.ref _, upd H (s.heap.objs.size + 1) (.lst (ZL.srtV xs ds)), I.laid (t' := s.toks) (fun _ _ => PyProof.Rows.sortedAll_old) (Nat.le_succ _) ⟨by rw [ZL.srtV_len len]; exact hz, out, ep, vo, he'⟩, rfl, q _ (I.hok.fresh (Nat.le_succ _))⟩
mutual
def pyD : Da → PyData
  | .bl b => .bool b | .int i => .int i | .str x => .str x
  | .tup l => .tuple (pyDs l) | .lst l => .list (pyDs l)
  | _ => .none
def pyDs : List Da → List PyData
  | [] => []
  | d :: l => pyD d :: pyDs l
end
mutual
def plnD : Da → Bool
  | .non => true | .bl _ => true | .int _ => true | .str _ => true
  | .tup l => plnDs l | .lst l => plnDs l
  | _ => false
def plnDs : List Da → Bool
  | [] => true
  | d :: l => plnD d && plnDs l
end
section
variable {K : PySem.W.Frag} {c : CEnv} {S : Option Addr} {G H : Hp}
mutual
theorem rp_dp (s : Same G H) : ∀ (d : Da) (v : V), plnD d = true → Rp K c S G v d → Dp K H v (pyD d)
  | .non, _, _, h => by cases h; exact .non
  | .bl b, _, _, h => by cases h; exact .bl _
  | .int i, _, _, h => by cases h; exact .int _
  | .str x, _, _, h => by cases h; exact .str _
  | .tup l, _, p, h => by
    obtain ⟨a, xs, rfl, e, rr⟩ := rpT h
    exact .tup (Same.sqT s e) (rps_dp s l xs p rr)
  | .lst l, _, p, h => by
    obtain ⟨a, xs, rfl, e, rr⟩ := rpL h
    exact .lst (SqL.of (s _ _ e)) (rps_dp s l xs p rr)
  | .st, _, p, _ => by cases p
  | .ty _, _, p, _ => by cases p
  | .ins _ _ _, _, p, _ => by cases p
theorem rps_dp (s : Same G H) : ∀ (l : List Da) (vs : List V), plnDs l = true → RpA K c S G vs l → DpAll K H vs (pyDs l)
  | [], _, _, h => by obtain rfl := rps0 h; exact .nil
  | d :: l, _, p, h => by
    obtain ⟨v, ws, rfl, a, b⟩ := rpsC h
    have p : (plnD d && plnDs l) = true := p
    rw [Bool.and_eq_true] at p
    exact .cons (rp_dp s d v p.1 a) (rps_dp s l ws p.2 b)
end
end
theorem pyDs_map : ∀ l : List Da, pyDs l = l.map pyD
  | [] => rfl
  | d :: l => by rw [pyDs, pyDs_map l]; rfl
def pSortD : PRl := fun ds Q => match ds with
  | [.lst l] => plnDs l = true ∧ PySem.W.AllAlike (l.map pyD) ∧ PySem.W.Sortable (l.map pyD) ∧ (∀ d ∈ l, (pyD d).depth ≤ 16) ∧ Q (.lst (srtD l (l.map pyD)))
  | _ => False
section
variable {N : Cn}
theorem sim_sortD : SimL N (rSortedD N.K) pSortD := by
  intro w H0 B ow H σ ρ xs ds Q Q' r hx h k
  unfold pSortD at h
  split at h
  · rename_i l
    obtain ⟨v, rfl, a⟩ := rps1 hx
    obtain ⟨p, ys, rfl, e, rr⟩ := rpL a
    obtain ⟨h1, h2, h3, h4, q⟩ := h
    refine ⟨p, ys, l.map pyD, rfl, SqL.of (hid_le _ _ e), by rw [← pyDs_map]; exact rps_dp hid_le l ys h1 rr, h2, h3, fun d hd => ?_, fun D hD => ?_⟩
    · obtain ⟨x, hx, rfl⟩ := List.mem_map.mp hd
      exact h4 x hx
    · exact k.newL r (rps_srt rr (List.length_map ..)) q hD
  · exact h.elim
end
theorem p_sortD {l : List Da} {Q : Da → Prop} (h1 : plnDs l = true) (h2 : PySem.W.AllAlike (l.map pyD)) (h3 : PySem.W.Sortable (l.map pyD)) (h4 : ∀ d ∈ l, (pyD d).depth ≤ 16) (q : Q (.lst (srtD l (l.map pyD)))) : pSortD [.lst l] Q := ⟨h1, h2, h3, h4, q⟩
theorem srtD_py {α : Type} (l : List α) (d : α → Da) : srtD (l.map d) ((l.map d).map pyD) = (l.mergeSort (PySem.W.dataLe false fun a => pyD (d a))).map d := by
  unfold srtD
  rw [show (l.map d).zip ((l.map d).map pyD) = l.map fun a => (d a, pyD (d a)) by rw [List.map_map, List.zip_map']; rfl]
  rw [← List.map_mergeSort (r := PySem.W.dataLe false fun a => pyD (d a)) (f := fun a => (d a, pyD (d a))) (l := l) (fun a _ b _ => rfl), List.map_map]
  rfl

abbrev Dk := L2.Key
section
variable {K : PySem.W.Frag} {c : CEnv} {S : Option Addr} {G : Hp}
end
section
variable {N : Cn} {w : Pw} {H0 B H : Hp} {ow : Ow} {σ : L2.St} {ρ : PEnv}
end
section
variable {i : Nat} {t : Bool} {l : List (List Dk × Da)} {a b : PEx} {ρ : PEnv} {Q : Da → Prop} {D : PD}
end

section
variable {K : PySem.W.Frag} {c : CEnv} {S : Option Addr} {G H : Hp} {v : V}
end
section
variable {N : Cn}
end

section
variable {α : Type} [DecidableEq α]
def ddA (acc : List α) (r : α) : List α := if r ∈ acc then acc else acc ++ [r]
def dd (l : List α) : List α := l.foldl ddA []
end

abbrev Rt := Str × Int
def rtD (r : Rt) : Da := .tup [.str r.1, .int r.2]
noncomputable def leT : Rt → Rt → Bool := PySem.W.dataLe false fun r => keyD (.str r.1)
theorem leT_T : PySem.W.TotalLe leT := PySem.W.sortLe_total (PyProof.Rows.listOrd PyProof.Rows.itemOrd) false fun b => PySem.W.keyToks _
def sle (x y : Str) : Bool := !decide (y.cps.toList < x.cps.toList)
theorem leT_eq (a b : Rt) : leT a b = sle a.1 b.1 := by
  unfold leT
  rw [dataLe_def]
  show (!PySem.W.dataLt (.str b.1) (.str a.1)) = _
  rw [PySem.W.dataLt_str]; rfl
theorem sle_tr {x y z : Str} (h1 : sle x y = true) (h2 : sle y z = true) : sle x z = true := by
  have := leT_T.trans (x, 0) (y, 0) (z, 0) (by rw [leT_eq]; exact h1) (by rw [leT_eq]; exact h2)
  rw [leT_eq] at this; exact this
theorem sle_to (x y : Str) : sle x y = true ∨ sle y x = true := by
  have := leT_T.total (x, 0) (y, 0)
  rw [leT_eq, leT_eq] at this; exact this
theorem sle_as {x y : Str} (h1 : sle x y = true) (h2 : sle y x = true) : x = y := by
  unfold sle at h1 h2
  refine PySem.W.str_of_cps (List.le_antisymm (fun z => ?_) (fun z => ?_))
  · rw [decide_eq_true z] at h1; cases h1
  · rw [decide_eq_true z] at h2; cases h2
theorem sle_nil (x : Str) : sle "" x = true := by
  unfold sle
  rw [decide_eq_false (by show ¬ x.cps.toList < []; exact List.not_lt_nil _)]; rfl
theorem sle_rf (x : Str) : sle x x = true := by rcases sle_to x x with h | h <;> exact h
def NodK (L : List Rt) : Prop := (L.map (·.1)).Nodup
def mkZ (L : List Rt) (low : Str) (sh : Int) : List Rt := (L.filter fun r => !decide (r.1 = low)) ++ [(low, sh)]
theorem mkZ_nod {L : List Rt} {low : Str} {sh : Int} (h : NodK L) : NodK (mkZ L low sh) := by
  unfold NodK mkZ
  rw [List.map_append]
  refine List.nodup_append.mpr ⟨List.Nodup.sublist ((List.filter_sublist ..).map _) h, by simp, fun a ha b hb => ?_⟩
  have : b = low := by simpa using hb
  subst this
  obtain ⟨r, hr, rfl⟩ := List.mem_map.mp ha
  have := (List.mem_filter.mp hr).2
  intro z
  rw [decide_eq_true z] at this; cases this
theorem put_sort (L : List Rt) (low : Str) (sh : Int) : (mkZ (L.mergeSort leT) low sh).mergeSort leT = (mkZ L low sh).mergeSort leT := by
  refine PySem.W.sort_unique leT_T (PySem.W.sort_pairwise leT_T _) fun c => ?_
  rw [PySem.W.sort_stable leT_T]
  unfold mkZ
  rw [List.filter_append, List.filter_append, List.filter_filter, List.filter_filter]
  congr 1
  rw [show (fun a : Rt => PySem.W.sameRank leT c a && !decide (a.1 = low)) = fun a => (!decide (a.1 = low)) && PySem.W.sameRank leT c a by funext a; exact Bool.and_comm _ _]
  rw [← List.filter_filter, ← List.filter_filter, PySem.W.sort_stable leT_T]
noncomputable def leP2 : Rt → Rt → Bool := PySem.W.dataLe false fun r => pyD (rtD r)
theorem leP2_T {a b : Rt} (h : leP2 a b = true) : leT a b = true := by
  by_cases e : b.1 = a.1
  · rw [leT_eq, e]; exact sle_rf _
  · unfold leP2 at h
    unfold leT
    rw [dataLe_def] at h ⊢
    rw [show PySem.W.dataLt (pyD (rtD b)) (pyD (rtD a)) = PySem.W.dataLt (.tuple [.str b.1, .int b.2]) (.tuple [.str a.1, .int a.2]) from rfl, PySem.W.dataLt_tuple, PySem.W.dataLt_all_no (by rfl) (by simp [PyData.eqv, e])] at h
    exact h
theorem key_one {c : Rt} : ∀ {L : List Rt}, NodK L → (∀ r ∈ L, r.1 = c.1) → L.length ≤ 1
  | [], _, _ => Nat.zero_le _
  | [_], _, _ => Nat.le_refl _
  | a :: b :: L, h, g => by
    have h : (a.1 :: b.1 :: L.map (·.1)).Nodup := h
    have := (List.nodup_cons.mp h).1
    refine absurd ?_ this
    rw [g a (List.mem_cons_self ..), g b (List.mem_cons_of_mem _ (List.mem_cons_self ..))]
    exact List.mem_cons_self ..
theorem perm_one {α : Type} {a b : List α} (p : a.Perm b) (h : b.length ≤ 1) : a = b := by
  cases b with
  | nil => exact p.eq_nil
  | cons x t =>
    cases t with
    | nil => exact List.perm_singleton.mp p
    | cons y t => simp at h
theorem same_key {c a : Rt} (h : PySem.W.sameRank leT c a = true) : a.1 = c.1 := by
  unfold PySem.W.sameRank at h
  rw [Bool.and_eq_true, leT_eq, leT_eq] at h
  exact sle_as h.2 h.1
theorem tup_sort {L : List Rt} (h : NodK L) : L.mergeSort leP2 = L.mergeSort leT := by
  have tt : PySem.W.TotalLe leP2 := PySem.W.sortLe_total (PyProof.Rows.listOrd PyProof.Rows.itemOrd) false fun b => PySem.W.keyToks _
  refine PySem.W.sort_unique leT_T ((PySem.W.sort_pairwise tt L).imp fun h => leP2_T h) fun c => ?_
  refine perm_one ((List.mergeSort_perm L leP2).filter _) (key_one (c := c) (List.Nodup.sublist ((List.filter_sublist ..).map _) h) fun r hr => same_key (List.mem_filter.mp hr).2)
theorem key_uniq {b : Str} {s t : Int} : ∀ {L : List Rt}, NodK L → (b, s) ∈ L → (b, t) ∈ L → s = t
  | [], _, h, _ => by cases h
  | x :: L, n, h, g => by
    have n : (x.1 :: L.map (·.1)).Nodup := n
    obtain ⟨n1, n2⟩ := List.nodup_cons.mp n
    rcases List.mem_cons.mp h with e | h
    · rcases List.mem_cons.mp g with e2 | g
      · rw [← e] at e2; exact (Prod.mk.inj e2).2.symm
      · refine absurd ?_ n1
        rw [← e]; exact List.mem_map.mpr ⟨_, g, rfl⟩
    · rcases List.mem_cons.mp g with e2 | g
      · refine absurd ?_ n1
        rw [← e2]; exact List.mem_map.mpr ⟨_, h, rfl⟩
      · exact key_uniq n2 h g
def Best (L : List Rt) (nm : Str) (b : Str) (s : Int) : Prop := (b, s) ∈ L ∧ sle b nm = true ∧ ∀ r ∈ L, sle r.1 nm = true → sle r.1 b = true
theorem Best.uniq {L M : List Rt} {nm b b2 : Str} {s s2 : Int} (n : NodK L) (p : ∀ r, r ∈ M ↔ r ∈ L) (h : Best L nm b s) (g : Best M nm b2 s2) : s = s2 := by
  have e : b = b2 := sle_as (g.2.2 (b, s) ((p _).mpr h.1) h.2.1) (h.2.2 (b2, s2) ((p _).mp g.1) g.2.1)
  subst e
  exact key_uniq n h.1 ((p _).mp g.1)
def shStep (nm : Str) (f : Int) (r : Rt) : Int := if sle r.1 nm = true then r.2 else f
def shZ (R : List Rt) (nm : Str) : Int := R.foldl (shStep nm) ((R.head?.map (·.2)).getD 0)
theorem sh_fold {nm : Str} : ∀ (l pre : List Rt) (b : Str) (f : Int), (pre ++ l).Pairwise (fun a b => leT a b = true) → Best pre nm b f → ∃ b', Best (pre ++ l) nm b' (l.foldl (shStep nm) f)
  | [], pre, b, f, _, h => ⟨b, by rw [List.append_nil]; exact h⟩
  | r :: l, pre, b, f, ps, h => by
    rw [show pre ++ r :: l = (pre ++ [r]) ++ l by rw [List.append_assoc]; rfl] at ps ⊢
    have pr := (List.pairwise_append.mp ps).1
    have pp := (List.pairwise_append.mp pr).2.2
    rw [List.foldl_cons]
    by_cases c : sle r.1 nm = true
    · refine sh_fold l (pre ++ [r]) r.1 _ ps ?_
      rw [show shStep nm f r = r.2 from if_pos c]
      refine ⟨List.mem_append_right _ (List.mem_cons_self ..), c, fun x hx _ => ?_⟩
      rcases List.mem_append.mp hx with hx | hx
      · have := pp x hx r (List.mem_cons_self ..)
        rw [leT_eq] at this; exact this
      · rw [List.mem_singleton.mp hx]; exact sle_rf _
    · refine sh_fold l (pre ++ [r]) b _ ps ?_
      rw [show shStep nm f r = f from if_neg c]
      refine ⟨List.mem_append_left _ h.1, h.2.1, fun x hx hn => ?_⟩
      rcases List.mem_append.mp hx with hx | hx
      · exact h.2.2 x hx hn
      · rw [List.mem_singleton.mp hx] at hn; exact absurd hn c
theorem sh_best {L : List Rt} {nm : Str} (h0 : ∃ s, (("" : Str), s) ∈ L) : ∃ b, Best (L.mergeSort leT) nm b (shZ (L.mergeSort leT) nm) := by
  have ps := PySem.W.sort_pairwise leT_T L
  obtain ⟨s, hs⟩ := h0
  have hs : (("" : Str), s) ∈ L.mergeSort leT := (List.mergeSort_perm _ _).mem_iff.mpr hs
  generalize L.mergeSort leT = R at ps hs ⊢
  cases R with
  | nil => cases hs
  | cons r l =>
    have c : sle r.1 nm = true := by
      refine sle_tr ?_ (sle_nil nm)
      rcases List.mem_cons.mp hs with e | hs
      · rw [← e]; exact sle_rf _
      · have := (List.pairwise_cons.mp ps).1 _ hs
        rw [leT_eq] at this; exact this
    have e : shZ (r :: l) nm = l.foldl (shStep nm) r.2 := by
      unfold shZ
      rw [List.foldl_cons, show shStep nm _ r = r.2 from if_pos c]
    rw [e]
    exact sh_fold l [r] r.1 r.2 ps ⟨List.mem_cons_self .., c, fun x hx _ => by rw [List.mem_singleton.mp hx]; exact sle_rf _⟩
theorem alk_str {α : Type} (l : List α) (f : α → Str) : PySem.W.AllAlike ((l.map fun a => Da.str (f a)).map keyD) := by
  intro d hd e he
  rw [List.map_map] at hd he
  obtain ⟨a, _, rfl⟩ := List.mem_map.mp hd
  obtain ⟨b, _, rfl⟩ := List.mem_map.mp he
  rfl
theorem srb_str {α : Type} (l : List α) (f : α → Str) : PySem.W.Sortable ((l.map fun a => Da.str (f a)).map keyD) := .inr fun d hd => by
  rw [List.map_map] at hd
  obtain ⟨a, _, rfl⟩ := List.mem_map.mp hd
  exact ⟨(fun z => nomatch z), fun _ z => nomatch z⟩
theorem p_sortRt {L : List Rt} {Q : Da → Prop} (h : NodK L) (q : Q (.lst ((L.mergeSort leT).map rtD))) : pSortD [.lst (L.map rtD)] Q := by
  refine p_sortD ?_ ?_ ?_ ?_ ?_
  · clear h q
    induction L with
    | nil => rfl
    | cons r L ih => show (plnD (rtD r) && plnDs (L.map rtD)) = true; rw [ih]; rfl
  · intro d hd e he
    rw [List.map_map] at hd he
    obtain ⟨a, _, rfl⟩ := List.mem_map.mp hd
    obtain ⟨b, _, rfl⟩ := List.mem_map.mp he
    rfl
  · refine .inl fun d hd => ?_
    rw [List.map_map] at hd
    obtain ⟨a, _, rfl⟩ := List.mem_map.mp hd
    exact ⟨_, _, rfl⟩
  · intro d hd
    obtain ⟨a, _, rfl⟩ := List.mem_map.mp hd
    show PyData.depth (.tuple [.str a.1, .int a.2]) ≤ 16
    simp [PyData.depth, PyData.depthAll]
  · rw [srtD_py]
    rw [show PySem.W.dataLe false (fun a => pyD (rtD a)) = leP2 from rfl, tup_sort h]
    exact q

local macro_rules | `(tactic| walk_at "pu") => `(tactic| (with_reducible first | refine p_istr ?_ | refine p_cstT ?_ | refine p_kout ?_ | refine p_kin ?_ | refine p_kst ?_ | refine p_ord ?_ | refine p_izip2 ?_ | refine p_izip3 ?_ | (refine p_zip2 (by first | exact seqL | exact seqT | assumption) (by first | exact seqL | exact seqT | assumption) ?_) | (refine p_zip3 (by first | exact seqL | exact seqT | assumption) (by first | exact seqL | exact seqT | assumption) (by first | exact seqL | exact seqT | assumption) ?_) | (refine p_lenS (by omega) ?_)))
local macro_rules | `(tactic| walk_at "pv") => `(tactic| repeat (first | walk_at "p1" | walk_at "pu"))
local macro_rules | `(tactic| walk_at "pw") => `(tactic| repeat (first | walk_at "p1" | walk_at "pu" | walk_at "pd"))
local macro_rules | `(tactic| walk_at "pm0") => `(tactic| (with_reducible first | refine q_p ?_ | refine q_pT ?_ | refine q_nil ?_ | refine q_cons ?_ | refine q_lst ?_ | refine q_tup ?_ | refine q_op ?_ | refine q_un ?_ | refine q_cb ?_ | refine q_test ?_ | refine q_tru ?_ | refine q_and ?_ | refine q_or ?_ | refine q_not ?_ | refine q_if ?_ | refine q_cal ?_ | refine q_calS ?_ | refine q_mk ?_ | refine q_asg ?_ | refine q_asgO ?_ | refine q_mtE ?_ | refine q_drop ?_ | refine q_ret ?_ | refine q_retP ?_ | refine q_retN ?_ | refine q_ifS ?_ | refine q_setF ?_ | refine q_setI ?_ | refine q_calM ?_ | refine q_calMX ?_ | refine q_mtM ?_ | refine q_mtMX ?_ | refine m_nil ?_ | refine m_d ?_ | refine m_l ?_ | refine p_rd ?_ | refine l_fld ?_ | refine l_ix ?_ | refine p_ofF ?_))
local macro_rules | `(tactic| walk_at "pm1") => `(tactic| (with_reducible first
  | ((show plVar _ _ _); refine l_var (by with_unfolding_all rfl) ?_)
  | ((show rdAt _ _ _ _); refine p_rdAt (by with_unfolding_all rfl) (by with_unfolding_all rfl) ?_)
  | ((show fldAt _ _ _ _ _); refine l_fldAt (by with_unfolding_all rfl) (by with_unfolding_all rfl) (by with_unfolding_all rfl) ?_)
  | ((show ixAt _ _ _ _ _); refine l_ixAt (by with_unfolding_all rfl) (by with_unfolding_all rfl) (by with_unfolding_all rfl) ?_)
  | ((show stF _ _ _ _ _ _); refine q_stF (by with_unfolding_all rfl) (by with_unfolding_all rfl) (by with_unfolding_all rfl) (by with_unfolding_all exact of_decide_eq_true rfl) ?_)
  | ((show stI _ _ _ _ _ _); refine q_stI (by with_unfolding_all rfl) (by with_unfolding_all rfl) (by with_unfolding_all rfl) ?_)
  | ((show isO _ _ _ _ _ ∧ _); refine And.intro (is_o (by with_unfolding_all rfl) (by with_unfolding_all rfl) (by with_unfolding_all rfl)) ?_)
  | ((show cmAt _ _ _ _ _); refine cm_at (by with_unfolding_all exact of_decide_eq_true rfl) (by with_unfolding_all rfl) ?_)))
local macro_rules | `(tactic| walk_at "pm2") => `(tactic| (dsimp only [List.set, Mu.put, putAm, setAt, List.getElem?_cons_zero, List.getElem?_cons_succ, List.nil_append, List.cons_append]))
local macro_rules | `(tactic| walk_at "mz") => `(tactic| repeat (first | walk_at "p1" | walk_at "pm0" | walk_at "pm1" | walk_at "pm2"))
local macro_rules | `(tactic| walk_at "mx") => `(tactic| repeat (first | walk_at "p1" | walk_at "pm0" | walk_at "pm1" | walk_at "pd" | walk_at "pm2"))
local macro_rules | `(tactic| walk_at "mv") => `(tactic| repeat (first | walk_at "p1" | walk_at "pu" | walk_at "pm0" | walk_at "pm1" | walk_at "pm2"))

abbrev CAK : List Str := ["ledger", "titles", "closed", "routes", "begins"]
def catM (lg : Da) (R : List Rt) : Mu := .o "Catalog" CAK [.d lg, .d (.lst []), .d (.lst []), .d (.lst (R.map rtD)), .d (.int 0)]
def catD (lg : Da) (R : List Rt) : Da := .ins "Catalog" CAK [lg, .lst [], .lst [], .lst (R.map rtD), .int 0]
theorem cat_da (lg : Da) (R : List Rt) : (catM lg R).da = catD lg R := rfl
noncomputable def putZ (R : List Rt) (low : Str) (sh : Int) : List Rt := (mkZ R low sh).mergeSort leT
theorem atI_k {α : Type} {l : List α} {j : Nat} {x : α} (h : l[j]? = some x) : atI l (j : Int) = some x := by
  have hj := (List.getElem?_eq_some_iff.mp h).1
  unfold atI ixN
  rw [if_pos (by omega), if_pos (by omega)]
  show (some (j : Int).toNat).bind _ = _
  rw [Int.toNat_natCast]; exact h
def ps_Catalog_init : PSi := fun ds Q E => ∃ (s : SchF) (a b sh : Int), ds = [s.da, .tup [.int a, .int b], .int sh] ∧ 0 ≤ a ∧ a < 4294967291 ∧ 0 ≤ b ∧ b < 4294967291 ∧ Q [.ins "Ledger" LK [s.da, .tup [.int a, .int b], .int 0, .int 0, .lst [], .lst [], .lst [], .int 1], .lst [], .lst [], .lst [rtD ("", sh)], .int 0]
def sp_Catalog_init (K : PySem.W.Frag) (c : CEnv) : Sp := liftI K c "Catalog" CAK ps_Catalog_init
theorem b_Catalog_init {K : PySem.W.Frag} {c : CEnv} : SpSimI K c "Catalog" CAK (sp_Catalog_init K c) ps_Catalog_init := spSimI_lift
abbrev N_Catalog_init : List Str := ["self", "schema", "key", "shard"]
-- Catalog.__init__(self, schema, key, shard): slots 0:self 1:schema 2:key 3:shard
def T_Catalog_init (K : PySem.W.Frag) (c : CEnv) (W : WX) : TS :=
    (tSeq (sFld K (tVar 0) (tMkX K c "Ledger" ["schema", "key", "now", "floor", "pins", "notes", "segments", "upcoming"] (sp_Ledger_init K c) W (tCons (tVar 1) (tCons (tVar 2) tNil))) "ledger")
    (tSeq (sFld K (tVar 0) (tLst tNil) "titles")
    (tSeq (sFld K (tVar 0) (tLst tNil) "closed")
    (tSeq (sFld K (tVar 0) (tLst (tCons (tTup (tCons (tC (.str "")) (tCons (tVar 3) tNil))) tNil)) "routes")
    (sFld K (tVar 0) (tC (.int 0)) "begins")))))
def P_Catalog_init (Wp : WP) : PSt :=
    (pSeq (pSetF 0 "ledger" (pMkX Wp "Ledger" ["schema", "key", "now", "floor", "pins", "notes", "segments", "upcoming"] ps_Ledger_init (pCons (pVar 1) (pCons (pVar 2) pNil))))
    (pSeq (pSetF 0 "titles" (pLst pNil))
    (pSeq (pSetF 0 "closed" (pLst pNil))
    (pSeq (pSetF 0 "routes" (pLst (pCons (pTup (pCons (pC (.str "")) (pCons (pVar 3) pNil))) pNil)))
    (pSetF 0 "begins" (pC (.int 0)))))))
theorem S_Catalog_init {K : PySem.W.Frag} {c : CEnv} {W : WX} {Wp : WP} : SimS ⟨K, c, W, Wp⟩ (T_Catalog_init K c W) (P_Catalog_init Wp) := by
  unfold T_Catalog_init P_Catalog_init
  exact (sim_seq (sim_setF (sim_mkX b_Ledger_init (sim_cons (sim_var 1) (sim_cons (sim_var 2) sim_nil))))
    (sim_seq (sim_setF (sim_lst sim_nil))
    (sim_seq (sim_setF (sim_lst sim_nil))
    (sim_seq (sim_setF (sim_lst (sim_cons (sim_tup (sim_cons (sim_str _) (sim_cons (sim_var 3) sim_nil))) sim_nil)))
    (sim_setF (sim_int _))))))

theorem q_Catalog_init : ∀ ds Q E, ps_Catalog_init ds Q E → ds.length + 1 = 4 ∧ P_Catalog_init (fun x _ => E x) { nx := endI "Catalog" CAK Q, rt := fun _ => False } (startI "Catalog" CAK 4 ds) := by
  rintro _ Q E ⟨s, a, b, sh, rfl, a0, a1, b0, b1, q⟩
  refine ⟨rfl, ?_⟩
  show P_Catalog_init _ _ [some (.obj "Catalog" CAK [] []), some (.d s.da), some (.d (.tup [.int a, .int b])), some (.d (.int sh))]
  unfold P_Catalog_init
  walk_at "pz"
  refine ⟨s, a, b, rfl, a0, a1, b0, b1, ?_⟩
  walk_at "pz"
  exact ⟨_, rfl, q⟩
theorem w_Catalog_init {K : PySem.W.Frag} {c : CEnv} : WdX (T_Catalog_init K c) N_Catalog_init 4 (sp_Catalog_init K c) := wd_liftIX (fun W Wp => S_Catalog_init) (by decide) q_Catalog_init
def ps_put_route : PSp := fun ds Q _ => ∃ (R : List Rt) (low : Str) (sh : Int), ds = [.lst (R.map rtD), .str low, .int sh] ∧ R.length ≤ 1000 ∧ Q (.lst ((putZ R low sh).map rtD))
def sp_put_route (K : PySem.W.Frag) (c : CEnv) : Sp := lift K c ps_put_route
theorem b_put_route {K : PySem.W.Frag} {c : CEnv} : SpSim K c (sp_put_route K c) ps_put_route := spSim_lift
abbrev N_put_route : List Str := ["routes", "low", "shard", "others", "row"]
-- put_route(routes, low, shard): slots 0:routes 1:low 2:shard 3:others 4:row
def T_put_route (K : PySem.W.Frag) (c : CEnv) : TS :=
    (tSeq (tAsg (tLc (iSq K (tVar 0)) (gName 4) (tTest (tOp (uNe K) (tOp (uIx K) (tVar 4) (tC (.int 0))) (tVar 1))) (tVar 4) [4]) (gName 3))
    (tRet (ZL.tSrtK K c.tb 4 (tOp (uAdd K) (tVar 3) (tLst (tCons (tTup (tCons (tVar 1) (tCons (tVar 2) tNil))) tNil))) (tOp (uIx K) (tVar 4) (tC (.int 0))))))
def P_put_route : PSt :=
    (pSeq (pAsg (pLc (piSq (pVar 0)) (pgName 4) (pTest (pOp pNe (pOp pIx (pVar 4) (pC (.int 0))) (pVar 1))) (pVar 4) [4]) (pgName 3))
    (pRet (pSrtK 4 (pOp pAdd (pVar 3) (pLst (pCons (pTup (pCons (pVar 1) (pCons (pVar 2) pNil))) pNil))) (pOp pIx (pVar 4) (pC (.int 0))))))
theorem S_put_route {K : PySem.W.Frag} {c : CEnv} : SimS ⟨K, c, W0, fun _ _ => False⟩ (T_put_route K c) (P_put_route) := by
  unfold T_put_route P_put_route
  exact (sim_seq (sim_asg (sim_lc (sim_iSq (sim_var 0)) (sim_gName 4) (by decide) (sim_test (sim_op sim_ne (sim_op sim_ix (sim_var 4) (sim_int _)) (sim_var 1))) (sim_var 4)) (sim_gName 3))
    (sim_ret (sim_srtK (sim_op sim_add (sim_var 3) (sim_lst (sim_cons (sim_tup (sim_cons (sim_var 1) (sim_cons (sim_var 2) sim_nil))) sim_nil))) (sim_op sim_ix (sim_var 4) (sim_int _)))))

theorem q_put_route : ∀ ds Q E, ps_put_route ds Q E → ds.length = 3 ∧ P_put_route { nx := fun _ => Q .non, rt := Q } (startP 5 ds) := by
  rintro _ Q E ⟨R, low, sh, rfl, hl, q⟩
  refine ⟨rfl, ?_⟩
  show P_put_route _ [some (.d (.lst (R.map rtD))), some (.d (.str low)), some (.d (.int sh)), none, none]
  unfold P_put_route
  walk_at "pz"
  refine p_filt (g := rtD) (fun r : Rt => !decide (r.1 = low)) (by omega) (fun j r k1 k2 hj y no => ?_) ?_
  · unfold rtD
    walk_at "pz"
    cases e : (!decide (r.1 = low)) with
    | true => walk_at "px"; exact y e
    | false => walk_at "px"; exact no e
  walk_at "pz"
  have fl := List.length_filter_le (fun r : Rt => !decide (r.1 = low)) R
  refine p_srtK ?_
  walk_at "pz"
  refine p_addL (by rw [List.length_map]; simp; omega) ?_
  have mk : (R.filter fun r => !decide (r.1 = low)).map rtD ++ [Da.tup [.str low, .int sh]] = (mkZ R low sh).map rtD := by unfold mkZ; rw [List.map_append]; rfl
  rw [mk]
  have hk1 := alk_str (mkZ R low sh) (·.1)
  have hk2 := srb_str (mkZ R low sh) (·.1)
  have hk3 : ∀ k ∈ (mkZ R low sh).map (fun r => Da.str r.1), keyOk k = true := fun k hk => by
    obtain ⟨x, _, rfl⟩ := List.mem_map.mp hk
    rfl
  refine ⟨(mkZ R low sh).map rtD, _, rfl, ?_, ?_, hk3, hk1, hk2, ?_⟩
  · rw [List.length_map, List.length_map]
  · intro i d k hd hk
    rw [List.getElem?_map] at hd hk
    cases e : (mkZ R low sh)[i]? with
    | none => rw [e] at hd; cases hd
    | some x =>
      rw [e] at hd hk
      cases hd; cases hk
      unfold rtD
      walk_at "pz"
  rw [srtD_map]
  walk_at "pz"
  exact q
theorem w_put_route {K : PySem.W.Frag} {c : CEnv} : Wd (T_put_route K c) N_put_route 3 (sp_put_route K c) := wd_lift S_put_route q_put_route
def ps_Catalog_shard_of : PSp := fun ds Q _ => ∃ (lg : Da) (R : List Rt) (nm : Str), ds = [catD lg R, .str nm] ∧ 0 < R.length ∧ R.length ≤ 1000 ∧ Q (.int (shZ R nm))
def sp_Catalog_shard_of (K : PySem.W.Frag) (c : CEnv) : Sp := lift K c ps_Catalog_shard_of
theorem b_Catalog_shard_of {K : PySem.W.Frag} {c : CEnv} : SpSim K c (sp_Catalog_shard_of K c) ps_Catalog_shard_of := spSim_lift
abbrev N_Catalog_shard_of : List Str := ["self", "name", "found", "low", "shard"]
-- Catalog.shard_of(self, name): slots 0:self 1:name 2:found 3:low 4:shard
def T_Catalog_shard_of_b1 (K : PySem.W.Frag) : TS :=
    (tIfS (tTest (tOp uLe (tVar 3) (tVar 1))) (tAsg (tVar 4) (gName 2)) tNext)
def T_Catalog_shard_of (K : PySem.W.Frag) : TS :=
    (tSeq (tAsg (tOp (uIx K) (tOp (uIx K) (tFld K (tVar 0) "routes") (tC (.int 0))) (tC (.int 1))) (gName 2))
    (tSeq (tFor (iSq K (tFld K (tVar 0) "routes")) (gTup K 2 (gCons (gName 3) (gCons (gName 4) gNil))) (T_Catalog_shard_of_b1 K))
    (tRet (tVar 2))))
def P_Catalog_shard_of_b1 : PSt :=
    (pIfS (pTest (pOp pLe (pVar 3) (pVar 1))) (pAsg (pVar 4) (pgName 2)) pNext)
def P_Catalog_shard_of : PSt :=
    (pSeq (pAsg (pOp pIx (pOp pIx (pFld (pVar 0) "routes") (pC (.int 0))) (pC (.int 1))) (pgName 2))
    (pSeq (pFor (piSq (pFld (pVar 0) "routes")) (pgTup 2 (pgCons (pgName 3) (pgCons (pgName 4) pgNil))) P_Catalog_shard_of_b1)
    (pRet (pVar 2))))
theorem S_Catalog_shard_of {K : PySem.W.Frag} {c : CEnv} : SimS ⟨K, c, W0, fun _ _ => False⟩ (T_Catalog_shard_of K) (P_Catalog_shard_of) := by
  unfold T_Catalog_shard_of P_Catalog_shard_of T_Catalog_shard_of_b1 P_Catalog_shard_of_b1
  exact (sim_seq (sim_asg (sim_op sim_ix (sim_op sim_ix (sim_fld (sim_var 0)) (sim_int _)) (sim_int _)) (sim_gName 2))
    (sim_seq (sim_for (sim_iSq (sim_fld (sim_var 0))) (sim_gTup (sim_gCons (sim_gName 3) (sim_gCons (sim_gName 4) sim_gNil))) (sim_ifS (sim_test (sim_op sim_le (sim_var 3) (sim_var 1))) (sim_asg (sim_var 4) (sim_gName 2)) sim_next))
    (sim_ret (sim_var 2))))

theorem q_Catalog_shard_of : ∀ ds Q E, ps_Catalog_shard_of ds Q E → ds.length = 2 ∧ P_Catalog_shard_of { nx := fun _ => Q .non, rt := Q } (startP 5 ds) := by
  rintro _ Q E ⟨lg, R, nm, rfl, h0, hl, q⟩
  refine ⟨rfl, ?_⟩
  show P_Catalog_shard_of _ [some (.d (.ins "Catalog" CAK [lg, .lst [], .lst [], .lst (R.map rtD), .int 0])), some (.d (.str nm)), none, none, none]
  unfold P_Catalog_shard_of P_Catalog_shard_of_b1
  have e0 : R[0]? = some R[0] := List.getElem?_eq_getElem h0
  have hd : (R.head?.map (·.2)).getD 0 = R[0].2 := by rw [List.head?_eq_getElem?, e0]; rfl
  unfold shZ at q
  rw [hd] at q
  generalize R[0] = r0 at e0 q
  walk_at "pz"
  refine p_ixL (atI_k (j := 0) (show (R.map rtD)[0]? = some (rtD r0) by rw [List.getElem?_map, e0]; rfl)) ?_
  unfold rtD
  walk_at "pz"
  refine p_loop (fun i ρ => ∃ x3 x4 : Option Pv, ρ = [some (.d (.ins "Catalog" CAK [lg, .lst [], .lst [], .lst (R.map rtD), .int 0])), some (.d (.str nm)), some (.d (.int ((R.take i).foldl (shStep nm) r0.2))), x3, x4]) ⟨_, _, rfl⟩ ?_ ?_
  · rintro i x _ hx ⟨x3, x4, rfl⟩
    rw [List.getElem?_map] at hx
    obtain ⟨r, hr, rfl⟩ := Option.map_eq_some_iff.mp hx
    have st : (R.take (i + 1)).foldl (shStep nm) r0.2 = shStep nm ((R.take i).foldl (shStep nm) r0.2) r := by rw [List.take_add_one, hr, List.foldl_append]; rfl
    rw [st]
    walk_at "pz"
    rw [show (!decide (nm.cps.toList < r.1.cps.toList)) = sle r.1 nm from rfl]
    unfold shStep
    cases e : sle r.1 nm with
    | true =>
      walk_at "px"
      exact ⟨_, _, rfl⟩
    | false =>
      walk_at "px"
      exact ⟨_, _, rfl⟩
  rintro _ ⟨x3, x4, rfl⟩
  rw [List.length_map, List.take_length]
  walk_at "pz"
  exact q
theorem w_Catalog_shard_of {K : PySem.W.Frag} {c : CEnv} : Wd (T_Catalog_shard_of K) N_Catalog_shard_of 2 (sp_Catalog_shard_of K c) := wd_lift S_Catalog_shard_of q_Catalog_shard_of
def ps_Catalog_change : PSm := fun as Q _ => ∃ (lg : Da) (R : List Rt) (low : Str) (sh : Int), as = [.mu true (catM lg R), .d (.tup [.str "route", .str low, .int sh])] ∧ R.length ≤ 1000 ∧ Q (.d (.int sh)) [.mu true (catM lg (putZ R low sh)), .d .non]
def sp_Catalog_change (K : PySem.W.Frag) (c : CEnv) : Sp := liftM K c ps_Catalog_change
theorem b_Catalog_change {K : PySem.W.Frag} {c : CEnv} : SpSimM K c (sp_Catalog_change K c) ps_Catalog_change := spSimM_lift
abbrev N_Catalog_change : List Str := ["self", "deed"]
-- Catalog.change(self, deed): slots 0:self 1:deed
def T_Catalog_change (K : PySem.W.Frag) (c : CEnv) (W : WX) : TS :=
    (tSeq (tIfS (tTest (tOp (uEq K) (tOp (uIx K) (tVar 1) (tC (.int 0))) (tC (.str "own")))) tNever tNext)
    (tSeq (tIfS (tTest (tOp (uEq K) (tOp (uIx K) (tVar 1) (tC (.int 0))) (tC (.str "close")))) (tSeq tNever
    (tRet (tC .non))) tNext)
    (tSeq (tIfS (tTest (tOp (uEq K) (tOp (uIx K) (tVar 1) (tC (.int 0))) (tC (.str "forget")))) (tSeq tNever
    (tRet (tC .non))) tNext)
    (tSeq (tIfS (tTest (tOp (uEq K) (tOp (uIx K) (tVar 1) (tC (.int 0))) (tC (.str "route")))) (tSeq (sFld K (tVar 0) (tCal (sp_put_route K c) (tCons (tFld K (tVar 0) "routes") (tCons (tOp (uIx K) (tVar 1) (tC (.int 1))) (tCons (tOp (uIx K) (tVar 1) (tC (.int 2))) tNil)))) "routes")
    (tRet (tOp (uIx K) (tVar 1) (tC (.int 2))))) tNext)
    (tSeq (tIfS (tTest (tOp (uEq K) (tOp (uIx K) (tVar 1) (tC (.int 0))) (tC (.str "begin")))) (tSeq tNever
    (tRet (tFld K (tVar 0) "begins"))) tNext)
    tNever)))))
def P_Catalog_change : PSt :=
    (pSeq (pIfS (pTest (pOp pEq (pOp pIx (pVar 1) (pC (.int 0))) (pC (.str "own")))) pNever pNext)
    (pSeq (pIfS (pTest (pOp pEq (pOp pIx (pVar 1) (pC (.int 0))) (pC (.str "close")))) (pSeq pNever
    (qRet (qP (pC .non)))) pNext)
    (pSeq (pIfS (pTest (pOp pEq (pOp pIx (pVar 1) (pC (.int 0))) (pC (.str "forget")))) (pSeq pNever
    (qRet (qP (pC .non)))) pNext)
    (pSeq (pIfS (pTest (pOp pEq (pOp pIx (pVar 1) (pC (.int 0))) (pC (.str "route")))) (pSeq (qSetF (plVar 0) "routes" (qP (pCal ps_put_route (pCons (pRd (plFld (plVar 0) "routes")) (pCons (pOp pIx (pVar 1) (pC (.int 1))) (pCons (pOp pIx (pVar 1) (pC (.int 2))) pNil))))))
    (qRet (qP (pOp pIx (pVar 1) (pC (.int 2)))))) pNext)
    (pSeq (pIfS (pTest (pOp pEq (pOp pIx (pVar 1) (pC (.int 0))) (pC (.str "begin")))) (pSeq pNever
    (qRet (qP (pRd (plFld (plVar 0) "begins"))))) pNext)
    pNever)))))
theorem S_Catalog_change {K : PySem.W.Frag} {c : CEnv} {W : WX} {Wp : WP} : SimS ⟨K, c, W, Wp⟩ (T_Catalog_change K c W) (P_Catalog_change) := by
  unfold T_Catalog_change P_Catalog_change
  exact (sim_seq (sim_ifS (sim_test (sim_op sim_eq (sim_op sim_ix (sim_var 1) (sim_int _)) (sim_str _))) sim_never sim_next)
    (sim_seq (sim_ifS (sim_test (sim_op sim_eq (sim_op sim_ix (sim_var 1) (sim_int _)) (sim_str _))) (sim_seq sim_never
    (sim_qRet (sim_qP sim_non))) sim_next)
    (sim_seq (sim_ifS (sim_test (sim_op sim_eq (sim_op sim_ix (sim_var 1) (sim_int _)) (sim_str _))) (sim_seq sim_never
    (sim_qRet (sim_qP sim_non))) sim_next)
    (sim_seq (sim_ifS (sim_test (sim_op sim_eq (sim_op sim_ix (sim_var 1) (sim_int _)) (sim_str _))) (sim_seq (sim_qSetF (sim_lVar 0) (sim_qP (sim_cal b_put_route (sim_cons (sim_rd (sim_lFld (sim_lVar 0))) (sim_cons (sim_op sim_ix (sim_var 1) (sim_int _)) (sim_cons (sim_op sim_ix (sim_var 1) (sim_int _)) sim_nil))))))
    (sim_qRet (sim_qP (sim_op sim_ix (sim_var 1) (sim_int _))))) sim_next)
    (sim_seq (sim_ifS (sim_test (sim_op sim_eq (sim_op sim_ix (sim_var 1) (sim_int _)) (sim_str _))) (sim_seq sim_never
    (sim_qRet (sim_qP (sim_rd (sim_lFld (sim_lVar 0)))))) sim_next)
    sim_never)))))

theorem q_Catalog_change : ∀ as Q E, ps_Catalog_change as Q E → as.length = 2 ∧ P_Catalog_change { nx := fun ρ => Q (.d .non) (outsOf 2 ρ), rt := fun _ => False, rm := fun r ρ => Q r (outsOf 2 ρ) } (startM 2 as) := by
  rintro _ Q E ⟨lg, R, low, sh, rfl, hl, q⟩
  refine ⟨rfl, ?_⟩
  show P_Catalog_change _ [some (.mu true (.o "Catalog" CAK [.d lg, .d (.lst []), .d (.lst []), .d (.lst (R.map rtD)), .d (.int 0)])), some (.d (.tup [.str "route", .str low, .int sh]))]
  unfold P_Catalog_change
  walk_at "mx"
  refine ⟨R, low, sh, rfl, hl, ?_⟩
  walk_at "mx"
  exact q
theorem w_Catalog_change {K : PySem.W.Frag} {c : CEnv} : WdX (T_Catalog_change K c) N_Catalog_change 2 (sp_Catalog_change K c) := wd_liftMX (fun W Wp => S_Catalog_change) q_Catalog_change
def ps_Catalog_settle : PSm := fun as Q _ => ∃ (lg : Da) (R : List Rt), as = [.mu true (catM lg R)] ∧ Q (.d .non) [.mu true (catM lg R)]
def sp_Catalog_settle (K : PySem.W.Frag) (c : CEnv) : Sp := liftM K c ps_Catalog_settle
theorem b_Catalog_settle {K : PySem.W.Frag} {c : CEnv} : SpSimM K c (sp_Catalog_settle K c) ps_Catalog_settle := spSimM_lift
abbrev N_Catalog_settle : List Str := ["self", "stay", "number", "shard", "name"]
-- Catalog.settle(self): slots 0:self 1:stay 2:number 3:shard 4:name
def T_Catalog_settle_b1 (K : PySem.W.Frag) : TS :=
    tNever
def T_Catalog_settle (K : PySem.W.Frag) : TS :=
    (tSeq (tAsg (tLst tNil) (gName 1))
    (tSeq (tFor (iSq K (tFld K (tVar 0) "titles")) (gTup K 3 (gCons (gName 2) (gCons (gName 3) (gCons (gName 4) gNil)))) (T_Catalog_settle_b1 K))
    (sFld K (tVar 0) (tVar 1) "titles")))
def P_Catalog_settle_b1 : PSt :=
    pNever
def P_Catalog_settle : PSt :=
    (pSeq (pAsg (pLst pNil) (pgName 1))
    (pSeq (pFor (piSq (pRd (plFld (plVar 0) "titles"))) (pgTup 3 (pgCons (pgName 2) (pgCons (pgName 3) (pgCons (pgName 4) pgNil)))) P_Catalog_settle_b1)
    (qSetF (plVar 0) "titles" (qP (pVar 1)))))
theorem S_Catalog_settle {K : PySem.W.Frag} {c : CEnv} : SimS ⟨K, c, W0, fun _ _ => False⟩ (T_Catalog_settle K) (P_Catalog_settle) := by
  unfold T_Catalog_settle P_Catalog_settle T_Catalog_settle_b1 P_Catalog_settle_b1
  exact (sim_seq (sim_asg (sim_lst sim_nil) (sim_gName 1))
    (sim_seq (sim_for (sim_iSq (sim_rd (sim_lFld (sim_lVar 0)))) (sim_gTup (sim_gCons (sim_gName 2) (sim_gCons (sim_gName 3) (sim_gCons (sim_gName 4) sim_gNil)))) sim_never)
    (sim_qSetF (sim_lVar 0) (sim_qP (sim_var 1)))))

theorem q_Catalog_settle : ∀ as Q E, ps_Catalog_settle as Q E → as.length = 1 ∧ P_Catalog_settle { nx := fun ρ => Q (.d .non) (outsOf 1 ρ), rt := fun _ => False, rm := fun r ρ => Q r (outsOf 1 ρ) } (startM 5 as) := by
  rintro _ Q E ⟨lg, R, rfl, q⟩
  refine ⟨rfl, ?_⟩
  show P_Catalog_settle _ [some (.mu true (.o "Catalog" CAK [.d lg, .d (.lst []), .d (.lst []), .d (.lst (R.map rtD)), .d (.int 0)])), none, none, none, none]
  unfold P_Catalog_settle P_Catalog_settle_b1
  walk_at "mz"
  refine p_loop (fun i ρ => ∃ x2 x3 x4 : Option Pv, ρ = [some (.mu true (.o "Catalog" CAK [.d lg, .d (.lst []), .d (.lst []), .d (.lst (R.map rtD)), .d (.int 0)])), some (.d (.lst [])), x2, x3, x4]) ⟨_, _, _, rfl⟩ (fun i x ρ hx => by cases hx) ?_
  rintro _ ⟨x2, x3, x4, rfl⟩
  walk_at "mz"
  exact q
theorem w_Catalog_settle {K : PySem.W.Frag} {c : CEnv} : Wd (T_Catalog_settle K) N_Catalog_settle 1 (sp_Catalog_settle K c) := wd_liftM S_Catalog_settle q_Catalog_settle
def ps_Catalog_apply : PSm := fun as Q _ => ∃ (lg : Da) (R : List Rt) (low : Str) (sh : Int), as = [.mu true (catM lg R), .d (.tup [.str "route", .str low, .int sh])] ∧ R.length ≤ 1000 ∧ Q (.d (.int sh)) [.mu true (catM lg (putZ R low sh)), .d .non]
def sp_Catalog_apply (K : PySem.W.Frag) (c : CEnv) : Sp := liftM K c ps_Catalog_apply
theorem b_Catalog_apply {K : PySem.W.Frag} {c : CEnv} : SpSimM K c (sp_Catalog_apply K c) ps_Catalog_apply := spSimM_lift
abbrev N_Catalog_apply : List Str := ["self", "deed", "outcome"]
-- Catalog.apply(self, deed): slots 0:self 1:deed 2:outcome
def T_Catalog_apply (K : PySem.W.Frag) (c : CEnv) (W : WX) : TS :=
    (tSeq (tAsg (tMtX c "Catalog" "change" (sp_Catalog_change K c) W (tVar 0) (tCons (tVar 1) tNil)) (gName 2))
    (tSeq (tDrop (tMt c "Catalog" "settle" (sp_Catalog_settle K c) (tVar 0) tNil))
    (tRet (tVar 2))))
def P_Catalog_apply (Wp : WP) : PSt :=
    (pSeq (qAsg (qMtMX Wp "Catalog" "change" ps_Catalog_change (plVar 0) (pmD (pVar 1) pmNil)) (pgName 2))
    (pSeq (qDrop (qMtM "Catalog" "settle" ps_Catalog_settle (plVar 0) pmNil))
    (qRet (qP (pVar 2)))))
theorem S_Catalog_apply {K : PySem.W.Frag} {c : CEnv} {W : WX} {Wp : WP} : SimS ⟨K, c, W, Wp⟩ (T_Catalog_apply K c W) (P_Catalog_apply Wp) := by
  unfold T_Catalog_apply P_Catalog_apply
  exact (sim_seq (sim_qAsg (sim_mtMX b_Catalog_change (sim_lVar 0) (sim_mD (sim_var 1) sim_mNil)) (sim_gName 2))
    (sim_seq (sim_qDrop (sim_mtM b_Catalog_settle (sim_lVar 0) sim_mNil))
    (sim_qRet (sim_qP (sim_var 2)))))

theorem q_Catalog_apply : ∀ as Q E, ps_Catalog_apply as Q E → as.length = 2 ∧ P_Catalog_apply (fun x ρ => E x (outsOf 2 ρ)) { nx := fun ρ => Q (.d .non) (outsOf 2 ρ), rt := fun _ => False, rm := fun r ρ => Q r (outsOf 2 ρ) } (startM 3 as) := by
  rintro _ Q E ⟨lg, R, low, sh, rfl, hl, q⟩
  refine ⟨rfl, ?_⟩
  show P_Catalog_apply _ _ [some (.mu true (.o "Catalog" CAK [.d lg, .d (.lst []), .d (.lst []), .d (.lst (R.map rtD)), .d (.int 0)])), some (.d (.tup [.str "route", .str low, .int sh])), none]
  unfold P_Catalog_apply
  walk_at "mz"
  refine ⟨lg, R, low, sh, rfl, hl, ?_⟩
  refine ⟨_, rfl, rfl, ?_⟩
  walk_at "mz"
  refine ⟨lg, _, rfl, ?_⟩
  refine ⟨_, rfl, rfl, ?_⟩
  walk_at "mz"
  exact q
theorem w_Catalog_apply {K : PySem.W.Frag} {c : CEnv} : WdX (T_Catalog_apply K c) N_Catalog_apply 2 (sp_Catalog_apply K c) := wd_liftMX (fun W Wp => S_Catalog_apply) q_Catalog_apply
theorem str_app_len (a b : Str) : (a ++ b).length = a.length + b.length := by
  show (a.cps ++ b.cps).size = _
  rw [Array.size_append]; rfl
def ps_law_word : PSp := fun ds Q _ => ds = [.st] ∧ ∀ x : Str, x.length ≤ 2 → Q (.str x)
def sp_law_word (K : PySem.W.Frag) (c : CEnv) : Sp := lift K c ps_law_word
theorem b_law_word {K : PySem.W.Frag} {c : CEnv} : SpSim K c (sp_law_word K c) ps_law_word := spSim_lift
abbrev N_law_word : List Str := ["_law_state", "_law_word_here", "_law_turn"]
-- _law_word(_law_state): slots 0:_law_state 1:_law_word_here 2:_law_turn
def T_law_word_b1 (K : PySem.W.Frag) : TS :=
    (tAsg (tOp (uAdd K) (tVar 1) (tOp (uIx K) (tC (.str "abz")) (tCal (sp_law_next K) (tCons (tVar 0) (tCons (tC (.int 3)) tNil))))) (gName 1))
def T_law_word (K : PySem.W.Frag) : TS :=
    (tSeq (tAsg (tC (.str "")) (gName 1))
    (tSeq (tFor (iRng1 (tCons (tCal (sp_law_next K) (tCons (tVar 0) (tCons (tC (.int 3)) tNil))) tNil)) (gName 2) (T_law_word_b1 K))
    (tRet (tVar 1))))
def P_law_word_b1 : PSt :=
    (pAsg (pOp pAdd (pVar 1) (pOp pIx (pC (.str "abz")) (pCal ps_law_next (pCons (pVar 0) (pCons (pC (.int 3)) pNil))))) (pgName 1))
def P_law_word : PSt :=
    (pSeq (pAsg (pC (.str "")) (pgName 1))
    (pSeq (pFor (piRng1 (pCons (pCal ps_law_next (pCons (pVar 0) (pCons (pC (.int 3)) pNil))) pNil)) (pgName 2) P_law_word_b1)
    (pRet (pVar 1))))
theorem S_law_word {K : PySem.W.Frag} {c : CEnv} : SimS ⟨K, c, W0, fun _ _ => False⟩ (T_law_word K) (P_law_word) := by
  unfold T_law_word P_law_word T_law_word_b1 P_law_word_b1
  exact (sim_seq (sim_asg (sim_str _) (sim_gName 1))
    (sim_seq (sim_for (sim_iRng1 (sim_cons (sim_cal b_law_next (sim_cons (sim_var 0) (sim_cons (sim_int _) sim_nil))) sim_nil)) (sim_gName 2) (sim_asg (sim_op sim_add (sim_var 1) (sim_op sim_ix (sim_str _) (sim_cal b_law_next (sim_cons (sim_var 0) (sim_cons (sim_int _) sim_nil))))) (sim_gName 1)))
    (sim_ret (sim_var 1))))

theorem q_law_word : ∀ ds Q E, ps_law_word ds Q E → ds.length = 1 ∧ P_law_word { nx := fun _ => Q .non, rt := Q } (startP 3 ds) := by
  rintro _ Q E ⟨rfl, q⟩
  refine ⟨rfl, ?_⟩
  show P_law_word _ [some (.d .st), none, none]
  unfold P_law_word P_law_word_b1
  walk_at "pz"
  refine next_c (by decide) (by decide) fun m m0 m1 => ?_
  refine p_rng1 (by omega) ?_
  refine p_loopR (fun i ρ => ∃ (x : Str) (x2 : Option Pv), x.length ≤ i ∧ ρ = [some (.d .st), some (.d (.str x)), x2]) ⟨"", _, by decide, rfl⟩ ?_ ?_
  · rintro i _ hi ⟨x, x2, hx, rfl⟩
    walk_at "pz"
    refine next_c (by decide) (by decide) fun a a0 a1 => ?_
    obtain ⟨j, rfl⟩ := Int.eq_ofNat_of_zero_le a0
    have : ∃ ch, (Str.cps "abz").toList[j]? = some ch := by
      have hj : j < 3 := by omega
      exact ⟨_, List.getElem?_eq_getElem (show j < (Str.cps "abz").toList.length from hj)⟩
    obtain ⟨ch, hch⟩ := this
    refine ⟨by decide, ch, atI_k hch, ?_⟩
    refine p_addS (by show x.length + 1 ≤ 100000; omega) ?_
    walk_at "pz"
    exact ⟨_, _, by rw [str_app_len]; show x.length + 1 ≤ i + 1; omega, rfl⟩
  rintro _ ⟨x, x2, hx, rfl⟩
  walk_at "pz"
  exact q x (by omega)
theorem w_law_word {K : PySem.W.Frag} {c : CEnv} : Wd (T_law_word K) N_law_word 1 (sp_law_word K c) := wd_lift S_law_word q_law_word
def ps_law_due : PSp := fun ds Q _ => ∃ (L : List Rt) (nm : Str), ds = [.lst (L.map rtD), .str nm] ∧ (∃ s, (("" : Str), s) ∈ L) ∧ ∀ b s, Best L nm b s → Q (.int s)
def sp_law_due (K : PySem.W.Frag) (c : CEnv) : Sp := lift K c ps_law_due
theorem b_law_due {K : PySem.W.Frag} {c : CEnv} : SpSim K c (sp_law_due K c) ps_law_due := spSim_lift
abbrev N_law_due : List Str := ["_law_routes", "_law_name", "_law_best", "_law_low", "_law_shard"]
-- _law_due(_law_routes, _law_name): slots 0:_law_routes 1:_law_name 2:_law_best 3:_law_low 4:_law_shard
def T_law_due_b1 (K : PySem.W.Frag) : TS :=
    (tIfS (tAnd (tTest (tOp uLe (tVar 3) (tVar 1))) (tOr (tTest (tOp uIs (tVar 2) (tC .non))) (tTest (tOp (uLt K) (tOp (uIx K) (tVar 2) (tC (.int 0))) (tVar 3))))) (tAsg (tTup (tCons (tVar 3) (tCons (tVar 4) tNil))) (gName 2)) tNext)
def T_law_due (K : PySem.W.Frag) : TS :=
    (tSeq (tAsg (tC .non) (gName 2))
    (tSeq (tFor (iSq K (tVar 0)) (gTup K 2 (gCons (gName 3) (gCons (gName 4) gNil))) (T_law_due_b1 K))
    (tRet (tOp (uIx K) (tVar 2) (tC (.int 1))))))
def P_law_due_b1 : PSt :=
    (pIfS (pAnd (pTest (pOp pLe (pVar 3) (pVar 1))) (pOr (pTest (pOp pIs (pVar 2) (pC .non))) (pTest (pOp pLt (pOp pIx (pVar 2) (pC (.int 0))) (pVar 3))))) (pAsg (pTup (pCons (pVar 3) (pCons (pVar 4) pNil))) (pgName 2)) pNext)
def P_law_due : PSt :=
    (pSeq (pAsg (pC .non) (pgName 2))
    (pSeq (pFor (piSq (pVar 0)) (pgTup 2 (pgCons (pgName 3) (pgCons (pgName 4) pgNil))) P_law_due_b1)
    (pRet (pOp pIx (pVar 2) (pC (.int 1))))))
theorem S_law_due {K : PySem.W.Frag} {c : CEnv} : SimS ⟨K, c, W0, fun _ _ => False⟩ (T_law_due K) (P_law_due) := by
  unfold T_law_due P_law_due T_law_due_b1 P_law_due_b1
  exact (sim_seq (sim_asg sim_non (sim_gName 2))
    (sim_seq (sim_for (sim_iSq (sim_var 0)) (sim_gTup (sim_gCons (sim_gName 3) (sim_gCons (sim_gName 4) sim_gNil))) (sim_ifS (sim_and (sim_test (sim_op sim_le (sim_var 3) (sim_var 1))) (sim_or (sim_test (sim_op sim_is (sim_var 2) sim_non)) (sim_test (sim_op sim_lt (sim_op sim_ix (sim_var 2) (sim_int _)) (sim_var 3))))) (sim_asg (sim_tup (sim_cons (sim_var 3) (sim_cons (sim_var 4) sim_nil))) (sim_gName 2)) sim_next))
    (sim_ret (sim_op sim_ix (sim_var 2) (sim_int _)))))

theorem q_law_due : ∀ ds Q E, ps_law_due ds Q E → ds.length = 2 ∧ P_law_due { nx := fun _ => Q .non, rt := Q } (startP 5 ds) := by
  rintro _ Q E ⟨L, nm, rfl, ⟨s0, h0⟩, q⟩
  refine ⟨rfl, ?_⟩
  show P_law_due _ [some (.d (.lst (L.map rtD))), some (.d (.str nm)), none, none, none]
  unfold P_law_due P_law_due_b1
  walk_at "pz"
  refine p_loop (fun i ρ => ∃ (v : Da) (x3 x4 : Option Pv), ((v = .non ∧ ∀ r ∈ L.take i, sle r.1 nm = false) ∨ ∃ b s, v = rtD (b, s) ∧ Best (L.take i) nm b s) ∧ ρ = [some (.d (.lst (L.map rtD))), some (.d (.str nm)), some (.d v), x3, x4]) ⟨.non, _, _, .inl ⟨rfl, (by intro r hr; cases hr)⟩, rfl⟩ ?_ ?_
  · rintro i x _ hx ⟨v, x3, x4, hv, rfl⟩
    rw [List.getElem?_map] at hx
    obtain ⟨r, hr, rfl⟩ := Option.map_eq_some_iff.mp hx
    have tk : L.take (i + 1) = L.take i ++ [r] := by rw [List.take_add_one, hr]; rfl
    rw [tk]
    have gone : sle r.1 nm = false → (v = .non ∧ ∀ r' ∈ L.take i ++ [r], sle r'.1 nm = false) ∨ ∃ b s, v = rtD (b, s) ∧ Best (L.take i ++ [r]) nm b s := fun e => by
      rcases hv with ⟨e1, e2⟩ | ⟨b, s, e1, h1, h2, h3⟩
      · refine .inl ⟨e1, fun y hy => ?_⟩
        rcases List.mem_append.mp hy with h | h
        · exact e2 y h
        · rw [List.mem_singleton.mp h]; exact e
      · refine .inr ⟨b, s, e1, List.mem_append_left _ h1, h2, fun y hy hn => ?_⟩
        rcases List.mem_append.mp hy with h | h
        · exact h3 y h hn
        · rw [List.mem_singleton.mp h, e] at hn; cases hn
    have newb : sle r.1 nm = true → (∀ y ∈ L.take i, sle y.1 nm = true → sle y.1 r.1 = true) → Best (L.take i ++ [r]) nm r.1 r.2 := fun e h => ⟨List.mem_append_right _ (List.mem_cons_self ..), e, fun y hy hn => by
      rcases List.mem_append.mp hy with h4 | h4
      · exact h y h4 hn
      · rw [List.mem_singleton.mp h4]; exact sle_rf _⟩
    unfold rtD
    walk_at "pz"
    rw [show (!decide (nm.cps.toList < r.1.cps.toList)) = sle r.1 nm from rfl]
    cases e : sle r.1 nm with
    | false =>
      walk_at "px"
      exact ⟨v, _, _, gone e, rfl⟩
    | true =>
      walk_at "px"
      rcases hv with ⟨rfl, e2⟩ | ⟨b, s, rfl, h1, h2, h3⟩
      · walk_at "py"
        exact ⟨_, _, _, .inr ⟨r.1, r.2, rfl, newb e fun y hy hn => by rw [e2 y hy] at hn; cases hn⟩, rfl⟩
      · unfold rtD
        walk_at "py"
        by_cases lt : b.cps.toList < r.1.cps.toList
        · rw [decide_eq_true lt]
          walk_at "px"
          have br : sle b r.1 = true := by
            rcases sle_to b r.1 with h | h
            · exact h
            · unfold sle at h; rw [decide_eq_true lt] at h; cases h
          exact ⟨_, _, _, .inr ⟨r.1, r.2, rfl, newb e fun y hy hn => sle_tr (h3 y hy hn) br⟩, rfl⟩
        · rw [decide_eq_false lt]
          walk_at "px"
          have rb : sle r.1 b = true := by unfold sle; rw [decide_eq_false lt]; rfl
          refine ⟨_, _, _, .inr ⟨b, s, rfl, List.mem_append_left _ h1, h2, fun y hy hn => ?_⟩, rfl⟩
          rcases List.mem_append.mp hy with h4 | h4
          · exact h3 y h4 hn
          · rw [List.mem_singleton.mp h4]; exact rb
  rintro _ ⟨v, x3, x4, hv, rfl⟩
  rw [List.length_map, List.take_length] at hv
  rcases hv with ⟨_, e2⟩ | ⟨b, s, rfl, hb⟩
  · have := e2 _ h0
    rw [show sle ((("" : Str), s0) : Rt).1 nm = true from sle_nil nm] at this; cases this
  · unfold rtD
    walk_at "pz"
    exact q b s hb
theorem w_law_due {K : PySem.W.Frag} {c : CEnv} : Wd (T_law_due K) N_law_due 2 (sp_law_due K c) := wd_lift S_law_due q_law_due

local macro_rules | `(tactic| walk_at "pu") => `(tactic| (with_reducible first | refine p_istr ?_ | refine p_cstT ?_ | refine p_kout ?_ | refine p_kin ?_ | refine p_kst ?_ | refine p_ord ?_ | refine p_izip2 ?_ | refine p_izip3 ?_ | (refine p_zip2 (by first | exact seqL | exact seqT | assumption) (by first | exact seqL | exact seqT | assumption) ?_) | (refine p_zip3 (by first | exact seqL | exact seqT | assumption) (by first | exact seqL | exact seqT | assumption) (by first | exact seqL | exact seqT | assumption) ?_) | (refine p_lenS (by omega) ?_)))
local macro_rules | `(tactic| walk_at "pv") => `(tactic| repeat (first | walk_at "p1" | walk_at "pu"))
local macro_rules | `(tactic| walk_at "pw") => `(tactic| repeat (first | walk_at "p1" | walk_at "pu" | walk_at "pd"))
local macro_rules | `(tactic| walk_at "pm0") => `(tactic| (with_reducible first | refine q_p ?_ | refine q_pT ?_ | refine q_nil ?_ | refine q_cons ?_ | refine q_lst ?_ | refine q_tup ?_ | refine q_op ?_ | refine q_un ?_ | refine q_cb ?_ | refine q_test ?_ | refine q_tru ?_ | refine q_and ?_ | refine q_or ?_ | refine q_not ?_ | refine q_if ?_ | refine q_cal ?_ | refine q_calS ?_ | refine q_mk ?_ | refine q_asg ?_ | refine q_asgO ?_ | refine q_mtE ?_ | refine q_drop ?_ | refine q_ret ?_ | refine q_retP ?_ | refine q_retN ?_ | refine q_ifS ?_ | refine q_setF ?_ | refine q_setI ?_ | refine q_calM ?_ | refine q_calMX ?_ | refine q_mtM ?_ | refine q_mtMX ?_ | refine m_nil ?_ | refine m_d ?_ | refine m_l ?_ | refine p_rd ?_ | refine l_fld ?_ | refine l_ix ?_ | refine p_ofF ?_))
local macro_rules | `(tactic| walk_at "pm1") => `(tactic| (with_reducible first
  | ((show plVar _ _ _); refine l_var (by with_unfolding_all rfl) ?_)
  | ((show rdAt _ _ _ _); refine p_rdAt (by with_unfolding_all rfl) (by with_unfolding_all rfl) ?_)
  | ((show fldAt _ _ _ _ _); refine l_fldAt (by with_unfolding_all rfl) (by with_unfolding_all rfl) (by with_unfolding_all rfl) ?_)
  | ((show ixAt _ _ _ _ _); refine l_ixAt (by with_unfolding_all rfl) (by with_unfolding_all rfl) (by with_unfolding_all rfl) ?_)
  | ((show stF _ _ _ _ _ _); refine q_stF (by with_unfolding_all rfl) (by with_unfolding_all rfl) (by with_unfolding_all rfl) (by with_unfolding_all exact of_decide_eq_true rfl) ?_)
  | ((show stI _ _ _ _ _ _); refine q_stI (by with_unfolding_all rfl) (by with_unfolding_all rfl) (by with_unfolding_all rfl) ?_)
  | ((show isO _ _ _ _ _ ∧ _); refine And.intro (is_o (by with_unfolding_all rfl) (by with_unfolding_all rfl) (by with_unfolding_all rfl)) ?_)
  | ((show cmAt _ _ _ _ _); refine cm_at (by with_unfolding_all exact of_decide_eq_true rfl) (by with_unfolding_all rfl) ?_)))
local macro_rules | `(tactic| walk_at "pm2") => `(tactic| (dsimp only [List.set, Mu.put, putAm, setAt, List.getElem?_cons_zero, List.getElem?_cons_succ, List.nil_append, List.cons_append]))
local macro_rules | `(tactic| walk_at "mz") => `(tactic| repeat (first | walk_at "p1" | walk_at "pm0" | walk_at "pm1" | walk_at "pm2"))
local macro_rules | `(tactic| walk_at "mx") => `(tactic| repeat (first | walk_at "p1" | walk_at "pm0" | walk_at "pm1" | walk_at "pd" | walk_at "pm2"))
local macro_rules | `(tactic| walk_at "mv") => `(tactic| repeat (first | walk_at "p1" | walk_at "pu" | walk_at "pm0" | walk_at "pm1" | walk_at "pm2"))
def plD : Nat → Da → Prop
  | 0, d => flD d = true
  | n + 1, d => flD d = true ∨ ∃ l, (d = .tup l ∨ d = .lst l) ∧ ∀ x ∈ l, plD n x
theorem plD.cq : ∀ {n : Nat} {d : Da}, plD n d → Cq n d d
  | 0, d, h => Cq.flat h h
  | n + 1, d, h => by
    rcases h with h | ⟨l, rfl | rfl, h⟩
    · exact Cq.flat h h
    · exact Cq.tup fun i x y hx hy => by rw [hx] at hy; cases hy; exact plD.cq (h x (List.mem_of_getElem? hx))
    · exact Cq.lst fun i x y hx hy => by rw [hx] at hy; cases hy; exact plD.cq (h x (List.mem_of_getElem? hx))
theorem plD.rf : ∀ {n : Nat} {d : Da}, plD n d → eqD d d = true
  | 0, d, h => by rw [eqD_flat h h]; exact eq0_refl d h
  | n + 1, d, h => by
    rcases h with h | ⟨l, rfl | rfl, h⟩
    · rw [eqD_flat h h]; exact eq0_refl d h
    · simp only [eqD]; exact eqDs_refl fun x hx => plD.rf (h x hx)
    · simp only [eqD]; exact eqDs_refl fun x hx => plD.rf (h x hx)
theorem p_nePl {n : Nat} {d : Da} {Q : Da → Prop} (hn : n ≤ 16) (h : plD n d) (k : Q (.bl false)) : pNe d d Q := ⟨n, hn, h.cq, by rw [h.rf]; exact k⟩
def lg0 : Da := .ins "Ledger" LK [(SchF.mk 1 "small" "square" []).da, .tup [.int 3, .int 5], .int 0, .int 0, .lst [], .lst [], .lst [], .int 1]
theorem sc1_ok : (SchF.mk 1 "small" "square" []).Ok := ⟨(by show (1 : Int) ≤ 1; decide), (by show (RNG.lookup ("small" : Str)).isSome = true; decide +kernel), (by show ("square" : Str) ∈ MSR; decide +kernel), (fun z => absurd (show ("square" : Str) = "bits" from z) (by decide +kernel)), (fun x hx => by cases hx), List.nodup_nil, Nat.zero_le _⟩
theorem rows_pl (R : List Rt) : plD 2 (.lst (R.map rtD)) := .inr ⟨_, .inr rfl, fun x hx => by
  obtain ⟨r, _, rfl⟩ := List.mem_map.mp hx
  exact .inr ⟨_, .inl rfl, fun y hy => by
    simp only [List.mem_cons, List.not_mem_nil, or_false] at hy
    rcases hy with rfl | rfl
    · show flD (Da.str _) = true; rfl
    · show flD (Da.int _) = true; rfl⟩⟩
theorem nil_pl : plD 1 (.lst []) := .inr ⟨[], .inr rfl, fun x hx => by cases hx⟩
theorem mk_nil {L : List Rt} {low : Str} {sh : Int} (h : ∃ s, (("" : Str), s) ∈ L) : ∃ s, (("" : Str), s) ∈ mkZ L low sh := by
  obtain ⟨s, hs⟩ := h
  unfold mkZ
  by_cases e : (("" : Str)) = low
  · subst e; exact ⟨sh, List.mem_append_right _ (List.mem_cons_self ..)⟩
  · exact ⟨s, List.mem_append_left _ (List.mem_filter.mpr ⟨hs, by simp [e]⟩)⟩
theorem mk_len {L : List Rt} {low : Str} {sh : Int} : (mkZ L low sh).length ≤ L.length + 1 := by
  unfold mkZ
  rw [List.length_append]
  have := List.length_filter_le (fun r : Rt => !decide (r.1 = low)) L
  simp; omega
theorem sh_due {L : List Rt} {nm b : Str} {s : Int} (n : NodK L) (h : ∃ s, (("" : Str), s) ∈ L) (hb : Best L nm b s) : shZ (L.mergeSort leT) nm = s := by
  obtain ⟨b2, h2⟩ := sh_best (nm := nm) h
  exact (hb.uniq n (fun r => (List.mergeSort_perm _ _).mem_iff) h2).symm
theorem srt_pos {L : List Rt} (h : ∃ s, (("" : Str), s) ∈ L) : 0 < (L.mergeSort leT).length := by
  rw [List.length_mergeSort]
  obtain ⟨s, hs⟩ := h
  exact List.length_pos_of_mem hs
abbrev N_law : List Str := ["_law_script", "_law_state", "_law_catalog", "_law_routes", "_law_turn", "_law_low", "_law_shard", "_law_row_here", "_law_name"]
-- law(_law_script): slots 0:_law_script 1:_law_state 2:_law_catalog 3:_law_routes 4:_law_turn 5:_law_low 6:_law_shard 7:_law_row_here 8:_law_name
def T_law_b1 (K : PySem.W.Frag) (c : CEnv) : TS :=
    (tSeq (tAsg (tCal (sp_law_word K c) (tCons (tVar 1) tNil)) (gName 5))
    (tSeq (tAsg (tCal (sp_law_next K) (tCons (tVar 1) (tCons (tC (.int 5)) tNil))) (gName 6))
    (tSeq (tAsg (tOp (uAdd K) (tLc (iSq K (tVar 3)) (gName 7) (tTest (tOp (uNe K) (tOp (uIx K) (tVar 7) (tC (.int 0))) (tVar 5))) (tVar 7) [7]) (tLst (tCons (tTup (tCons (tVar 5) (tCons (tVar 6) tNil))) tNil))) (gName 3))
    (tIfS (tTest (tOp (uNe K) (tMtX c "Catalog" "apply" (sp_Catalog_apply K c) W0 (tVar 2) (tCons (tTup (tCons (tC (.str "route")) (tCons (tVar 5) (tCons (tVar 6) tNil)))) tNil)) (tVar 6))) (tRet (tC (.bl false))) tNext))))
def T_law_b2 (K : PySem.W.Frag) (c : CEnv) : TS :=
    (tSeq (tAsg (tOp (uAdd K) (tCal (sp_law_word K c) (tCons (tVar 1) tNil)) (tCal (sp_law_word K c) (tCons (tVar 1) tNil))) (gName 8))
    (tIfS (tTest (tOp (uNe K) (tMt c "Catalog" "shard_of" (sp_Catalog_shard_of K c) (tVar 2) (tCons (tVar 8) tNil)) (tCal (sp_law_due K c) (tCons (tVar 3) (tCons (tVar 8) tNil))))) (tRet (tC (.bl false))) tNext))
def T_law (K : PySem.W.Frag) (c : CEnv) : TS :=
    (tSeq (tAsg (tLst (tCons (tCB (uList K) (tCons (tVar 0) tNil)) (tCons (tC (.int 0)) (tCons (tC (.int 0)) tNil)))) (gName 1))
    (tSeq (tAsg (tMkX K c "Catalog" ["ledger", "titles", "closed", "routes", "begins"] (sp_Catalog_init K c) W0 (tCons (tMkK K c "Schema" ["size", "width", "measure", "fields"] 1 0 [(.v (.str "small")), (.v (.str "square")), .e] [(false, 0), (false, 1), (false, 2)] (sp_Schema_init K c) W0 (tCons (tC (.int 1)) tNil) tNil) (tCons (tTup (tCons (tC (.int 3)) (tCons (tC (.int 5)) tNil))) (tCons (tC (.int 7)) tNil)))) (gName 2))
    (tSeq (tAsg (tLst (tCons (tTup (tCons (tC (.str "")) (tCons (tC (.int 7)) tNil))) tNil)) (gName 3))
    (tSeq (tFor (iRng1 (tCons (tCal (sp_law_next K) (tCons (tVar 1) (tCons (tC (.int 11)) tNil))) tNil)) (gName 4) (T_law_b1 K c))
    (tSeq (tIfS (tOr (tTest (tOp (uNe K) (tFld K (tVar 2) "routes") (tCB (rSortedD K) (tCons (tVar 3) tNil)))) (tOr (tTest (tOp (uNe K) (tFld K (tVar 2) "closed") (tLst tNil))) (tOr (tTest (tOp (uNe K) (tFld K (tVar 2) "titles") (tLst tNil))) (tTest (tOp (uNe K) (tFld K (tVar 2) "begins") (tC (.int 0))))))) (tRet (tC (.bl false))) tNext)
    (tSeq (tFor (iRng1 (tCons (tC (.int 12)) tNil)) (gName 4) (T_law_b2 K c))
    (tRet (tAndV (tOp (uEq K) (tMt c "Catalog" "shard_of" (sp_Catalog_shard_of K c) (tVar 2) (tCons (tC (.str "")) tNil)) (tCal (sp_law_due K c) (tCons (tVar 3) (tCons (tC (.str "")) tNil)))) (tOp (uEq K) (tFld K (tFld K (tVar 2) "ledger") "now") (tC (.int 0)))))))))))
def U_law (K : PySem.W.Frag) (c : CEnv) : TS :=
    (tSeq (tAsg (tMkX K c "Catalog" ["ledger", "titles", "closed", "routes", "begins"] (sp_Catalog_init K c) W0 (tCons (tMkK K c "Schema" ["size", "width", "measure", "fields"] 1 0 [(.v (.str "small")), (.v (.str "square")), .e] [(false, 0), (false, 1), (false, 2)] (sp_Schema_init K c) W0 (tCons (tC (.int 1)) tNil) tNil) (tCons (tTup (tCons (tC (.int 3)) (tCons (tC (.int 5)) tNil))) (tCons (tC (.int 7)) tNil)))) (gName 2)) (tSeq (tAsg (tLst (tCons (tTup (tCons (tC (.str "")) (tCons (tC (.int 7)) tNil))) tNil)) (gName 3)) (tSeq (tFor (iRng1 (tCons (tCal (sp_law_next K) (tCons (tVar 1) (tCons (tC (.int 11)) tNil))) tNil)) (gName 4) (T_law_b1 K c)) (tSeq (tIfS (tOr (tTest (tOp (uNe K) (tFld K (tVar 2) "routes") (tCB (rSortedD K) (tCons (tVar 3) tNil)))) (tOr (tTest (tOp (uNe K) (tFld K (tVar 2) "closed") (tLst tNil))) (tOr (tTest (tOp (uNe K) (tFld K (tVar 2) "titles") (tLst tNil))) (tTest (tOp (uNe K) (tFld K (tVar 2) "begins") (tC (.int 0))))))) (tRet (tC (.bl false))) tNext) (tSeq (tFor (iRng1 (tCons (tC (.int 12)) tNil)) (gName 4) (T_law_b2 K c)) (tRet (tAndV (tOp (uEq K) (tMt c "Catalog" "shard_of" (sp_Catalog_shard_of K c) (tVar 2) (tCons (tC (.str "")) tNil)) (tCal (sp_law_due K c) (tCons (tVar 3) (tCons (tC (.str "")) tNil)))) (tOp (uEq K) (tFld K (tFld K (tVar 2) "ledger") "now") (tC (.int 0))))))))))
def P_law_b1 : PSt :=
    (pSeq (pAsg (pCal ps_law_word (pCons (pVar 1) pNil)) (pgName 5))
    (pSeq (pAsg (pCal ps_law_next (pCons (pVar 1) (pCons (pC (.int 5)) pNil))) (pgName 6))
    (pSeq (pAsg (pOp pAdd (pLc (piSq (pVar 3)) (pgName 7) (pTest (pOp pNe (pOp pIx (pVar 7) (pC (.int 0))) (pVar 5))) (pVar 7) [7]) (pLst (pCons (pTup (pCons (pVar 5) (pCons (pVar 6) pNil))) pNil))) (pgName 3))
    (qIfS (qTest (qOp pNe (qMtMX (fun _ _ => False) "Catalog" "apply" ps_Catalog_apply (plVar 2) (pmD (pTup (pCons (pC (.str "route")) (pCons (pVar 5) (pCons (pVar 6) pNil)))) pmNil)) (qP (pVar 6)))) (pRet (pC (.bl false))) pNext))))
def P_law_b2 : PSt :=
    (pSeq (pAsg (pOp pAdd (pCal ps_law_word (pCons (pVar 1) pNil)) (pCal ps_law_word (pCons (pVar 1) pNil))) (pgName 8))
    (pIfS (pTest (pSee 2 (pOp pNe (pMt "Catalog" "shard_of" ps_Catalog_shard_of (pVar 2) (pCons (pVar 8) pNil)) (pCal ps_law_due (pCons (pVar 3) (pCons (pVar 8) pNil)))))) (pRet (pC (.bl false))) pNext))
def P_law : PSt :=
    (pSeq (qAsgMkX (fun _ _ => False) 2 "Catalog" ["ledger", "titles", "closed", "routes", "begins"] ps_Catalog_init (pCons (pMkK (fun _ _ => False) "Schema" ["size", "width", "measure", "fields"] 1 0 [(.v (.str "small")), (.v (.str "square")), .e] [(false, 0), (false, 1), (false, 2)] ps_Schema_init (pCons (pC (.int 1)) pNil) pNil) (pCons (pTup (pCons (pC (.int 3)) (pCons (pC (.int 5)) pNil))) (pCons (pC (.int 7)) pNil))))
    (pSeq (pAsg (pLst (pCons (pTup (pCons (pC (.str "")) (pCons (pC (.int 7)) pNil))) pNil)) (pgName 3))
    (pSeq (pFor (piRng1 (pCons (pCal ps_law_next (pCons (pVar 1) (pCons (pC (.int 11)) pNil))) pNil)) (pgName 4) P_law_b1)
    (pSeq (pIfS (pOr (pTest (pOp pNe (pRd (plFld (plVar 2) "routes")) (pCB pSortD (pCons (pVar 3) pNil)))) (pOr (pTest (pOp pNe (pRd (plFld (plVar 2) "closed")) (pLst pNil))) (pOr (pTest (pOp pNe (pRd (plFld (plVar 2) "titles")) (pLst pNil))) (pTest (pOp pNe (pRd (plFld (plVar 2) "begins")) (pC (.int 0))))))) (pRet (pC (.bl false))) pNext)
    (pSeq (pFor (piRng1 (pCons (pC (.int 12)) pNil)) (pgName 4) P_law_b2)
    (pRet (pSee 2 (pAndV (pOp pEq (pMt "Catalog" "shard_of" ps_Catalog_shard_of (pVar 2) (pCons (pC (.str "")) pNil)) (pCal ps_law_due (pCons (pVar 3) (pCons (pC (.str "")) pNil)))) (pOp pEq (pFld (pFld (pVar 2) "ledger") "now") (pC (.int 0)))))))))))
theorem S_law {K : PySem.W.Frag} {c : CEnv} : SimS ⟨K, c, W0, fun _ _ => False⟩ (U_law K c) (P_law) := by
  unfold U_law P_law T_law_b2 T_law_b1 P_law_b2 P_law_b1
  exact (sim_seq (sim_asgMkX b_Catalog_init (sim_cons (sim_mkK0 b_Schema_init (sim_cons (sim_int _) sim_nil) sim_nil rfl) (sim_cons (sim_tup (sim_cons (sim_int _) (sim_cons (sim_int _) sim_nil))) (sim_cons (sim_int _) sim_nil))))
    (sim_seq (sim_asg (sim_lst (sim_cons (sim_tup (sim_cons (sim_str _) (sim_cons (sim_int _) sim_nil))) sim_nil)) (sim_gName 3))
    (sim_seq (sim_for (sim_iRng1 (sim_cons (sim_cal b_law_next (sim_cons (sim_var 1) (sim_cons (sim_int _) sim_nil))) sim_nil)) (sim_gName 4) (sim_seq (sim_asg (sim_cal b_law_word (sim_cons (sim_var 1) sim_nil)) (sim_gName 5))
    (sim_seq (sim_asg (sim_cal b_law_next (sim_cons (sim_var 1) (sim_cons (sim_int _) sim_nil))) (sim_gName 6))
    (sim_seq (sim_asg (sim_op sim_add (sim_lc (sim_iSq (sim_var 3)) (sim_gName 7) (by decide) (sim_test (sim_op sim_ne (sim_op sim_ix (sim_var 7) (sim_int _)) (sim_var 5))) (sim_var 7)) (sim_lst (sim_cons (sim_tup (sim_cons (sim_var 5) (sim_cons (sim_var 6) sim_nil))) sim_nil))) (sim_gName 3))
    (sim_qIfS (sim_qTest (sim_qOp sim_ne (sim_mtMX b_Catalog_apply (sim_lVar 2) (sim_mD (sim_tup (sim_cons (sim_str _) (sim_cons (sim_var 5) (sim_cons (sim_var 6) sim_nil)))) sim_mNil)) (sim_qP (sim_var 6)))) (sim_ret (sim_bl _)) sim_next)))))
    (sim_seq (sim_ifS (sim_or (sim_test (sim_op sim_ne (sim_rd (sim_lFld (sim_lVar 2))) (sim_cb sim_sortD (sim_cons (sim_var 3) sim_nil)))) (sim_or (sim_test (sim_op sim_ne (sim_rd (sim_lFld (sim_lVar 2))) (sim_lst sim_nil))) (sim_or (sim_test (sim_op sim_ne (sim_rd (sim_lFld (sim_lVar 2))) (sim_lst sim_nil))) (sim_test (sim_op sim_ne (sim_rd (sim_lFld (sim_lVar 2))) (sim_int _)))))) (sim_ret (sim_bl _)) sim_next)
    (sim_seq (sim_for (sim_iRng1 (sim_cons (sim_int _) sim_nil)) (sim_gName 4) (sim_seq (sim_asg (sim_op sim_add (sim_cal b_law_word (sim_cons (sim_var 1) sim_nil)) (sim_cal b_law_word (sim_cons (sim_var 1) sim_nil))) (sim_gName 8))
    (sim_ifS (sim_test (sim_see (sim_op sim_ne (sim_mt b_Catalog_shard_of (sim_var 2) (sim_cons (sim_var 8) sim_nil)) (sim_cal b_law_due (sim_cons (sim_var 3) (sim_cons (sim_var 8) sim_nil)))))) (sim_ret (sim_bl _)) sim_next)))
    (sim_ret (sim_see (sim_andV (sim_op sim_eq (sim_mt b_Catalog_shard_of (sim_var 2) (sim_cons (sim_str _) sim_nil)) (sim_cal b_law_due (sim_cons (sim_var 3) (sim_cons (sim_str _) sim_nil)))) (sim_op sim_eq (sim_fld (sim_fld (sim_var 2))) (sim_int _))))))))))

theorem q_law : P_law { nx := fun _ => False, rt := fun d => d = .bl true } (none :: some (.d .st) :: List.replicate 7 none) := by
  unfold P_law P_law_b1 P_law_b2
  show pSeq _ _ _ [none, some (.d .st), none, none, none, none, none, none, none]
  walk_at "mz"
  refine q_asgMkX (of_decide_eq_true rfl) ?_
  walk_at "mz"
  refine ⟨rfl, rfl, SchF.mk 1 "small" "square" [], _, rfl, .inr rfl, sc1_ok, ?_⟩
  walk_at "mz"
  refine ⟨SchF.mk 1 "small" "square" [], 3, 5, 7, rfl, by decide, by decide, by decide, by decide, ?_⟩
  walk_at "mz"
  refine next_c (by decide) (by decide) fun m m0 m1 => ?_
  refine p_rng1 (by omega) ?_
  refine p_loopR (fun i ρ => ∃ (L : List Rt) (x0 x4 x5 x6 x7 x8 : Option Pv), NodK L ∧ (∃ s, (("" : Str), s) ∈ L) ∧ L.length ≤ i + 1 ∧ ρ = [x0, some (.d .st), some (.mu false (catM lg0 (L.mergeSort leT))), some (.d (.lst (L.map rtD))), x4, x5, x6, x7, x8]) ⟨[("", 7)], _, _, _, _, _, _, by unfold NodK; simp, ⟨7, List.mem_cons_self ..⟩, Nat.le_refl _, by rw [List.mergeSort_singleton]; rfl⟩ ?_ ?_
  · rintro i _ hi ⟨L, x0, x4, x5, x6, x7, x8, nd, h0, hl, rfl⟩
    have hi11 : i < 11 := by omega
    walk_at "mz"
    refine ⟨rfl, fun low hlow => ?_⟩
    walk_at "mz"
    refine next_c (by decide) (by decide) fun sh sh0 sh1 => ?_
    walk_at "mz"
    refine p_filt (g := rtD) (fun r : Rt => !decide (r.1 = low)) (by omega) (fun j r k1 k2 hj y no => ?_) ?_
    · unfold rtD
      walk_at "mz"
      cases e : (!decide (r.1 = low)) with
      | true => walk_at "mx"; exact y e
      | false => walk_at "mx"; exact no e
    have fl := List.length_filter_le (fun r : Rt => !decide (r.1 = low)) L
    walk_at "mz"
    refine p_addL (by rw [List.length_map]; simp; omega) ?_
    rw [show (L.filter fun r => !decide (r.1 = low)).map rtD ++ [Da.tup [.str low, .int sh]] = (mkZ L low sh).map rtD by unfold mkZ; rw [List.map_append]; rfl]
    walk_at "mz"
    refine ⟨lg0, L.mergeSort leT, low, sh, rfl, by rw [List.length_mergeSort]; omega, ?_⟩
    refine ⟨_, rfl, rfl, ?_⟩
    walk_at "mz"
    rw [decide_eq_true rfl]
    walk_at "mx"
    have ps : putZ (L.mergeSort leT) low sh = (mkZ L low sh).mergeSort leT := put_sort L low sh
    rw [ps]
    have ml := mk_len (L := L) (low := low) (sh := sh)
    exact ⟨mkZ L low sh, _, _, _, _, _, _, mkZ_nod nd, mk_nil h0, by omega, rfl⟩
  rintro _ ⟨L, x0, x4, x5, x6, x7, x8, nd, h0, hl, rfl⟩
  have hl12 : L.length ≤ 11 := by omega
  have sp := srt_pos h0
  unfold catM
  walk_at "mz"
  refine p_sortRt nd ?_
  refine p_nePl (n := 2) (by decide) (rows_pl _) ?_
  walk_at "mx"
  refine p_nePl (n := 1) (by decide) nil_pl ?_
  walk_at "mx"
  refine p_nePl (n := 1) (by decide) nil_pl ?_
  walk_at "mx"
  refine p_rng1 (by decide) ?_
  refine p_loopR (fun i ρ => ∃ (x0 x4 x5 x6 x7 x8 : Option Pv), ρ = [x0, some (.d .st), some (.mu false (catM lg0 (L.mergeSort leT))), some (.d (.lst (L.map rtD))), x4, x5, x6, x7, x8]) ⟨_, _, _, _, _, _, rfl⟩ ?_ ?_
  · rintro i _ hi ⟨x0, x4, x5, x6, x7, x8, rfl⟩
    walk_at "mz"
    refine ⟨rfl, fun w1 hw1 => ?_⟩
    walk_at "mz"
    refine ⟨rfl, fun w2 hw2 => ?_⟩
    refine p_addS (by omega) ?_
    walk_at "mz"
    refine p_see false ["Catalog"] rfl rfl rfl ?_
    rw [cat_da]
    unfold catD
    walk_at "mz"
    refine ⟨lg0, _, _, rfl, sp, by rw [List.length_mergeSort]; omega, ?_⟩
    walk_at "mz"
    refine ⟨L, _, rfl, h0, fun b s hb => ?_⟩
    walk_at "mz"
    rw [decide_eq_true (sh_due nd h0 hb)]
    refine ⟨rfl, ?_⟩
    walk_at "mx"
    exact ⟨_, _, _, _, _, _, rfl⟩
  rintro _ ⟨x0, x4, x5, x6, x7, x8, rfl⟩
  walk_at "mz"
  refine p_see false ["Catalog"] rfl rfl rfl ?_
  rw [cat_da]
  unfold catD
  walk_at "mz"
  refine ⟨lg0, _, _, rfl, sp, by rw [List.length_mergeSort]; omega, ?_⟩
  walk_at "mz"
  refine ⟨L, _, rfl, h0, fun b s hb => ?_⟩
  walk_at "mz"
  rw [decide_eq_true (sh_due nd h0 hb)]
  unfold lg0
  walk_at "mx"
  exact ⟨rfl, rfl⟩
theorem w_law {K : PySem.W.Frag} {c : CEnv} : Wd (T_law K c) N_law 1 (sp_lawT K c) := by
  unfold T_law
  exact wd_law (c := c) S_law rfl q_law
/-! ### the text by places, and its defs, each once -/
def topS (i : Nat) : Stmt := PySem.Challenge.pw_surenear_k70_names_belong_to_shards.main.body.getD i (.Pass ⟨0, 0, 0, 0⟩)
section
variable {P : Program} {w : World} {K : PySem.W.Frag} {mg : Str → Option Value} {base : Heap} {c : CEnv}
abbrev s_check_key : Stmt := (topS 12)
theorem sc_check_key : FnScope N_check_key ["key"] (defScope s_check_key) := ⟨rfl, rfl, rfl, by decide +kernel, rfl, by decide +kernel, by decide +kernel⟩
theorem ok_check_key (E_InvalidKey : ExcF K mg c "InvalidKey") (g_PRIME : ∃ t, mg "PRIME" = some (.int 4294967291 t)) {f : Addr} {fd : FuncData} (F : Fun K "check_key" "check_key" s_check_key f fd) : FnOk P w K mg base (L2.CX P w) 1 f fd ["key"] (sp_check_key K c) := by
  have sc := sc_check_key
  refine F.okX sc_check_key (fun vs H Q E h => ((w_check_key (c := c)) vs H Q E h).1) (fun cdv A outer s H vs Q E hr h => ⟨T_check_key K c (fun cls d _ H => E cls d H), ?_, ((w_check_key (c := c)) vs H Q E h).2⟩)
  exact (pss_one (ps_for (passes_of rfl) rfl (pi_sq (pv 0)) (pg_name (i := 1) sc.nd rfl (by first | exact Or.inl rfl | exact Or.inr rfl)) (pss_one (ps_if (PW.pt (pw_or (pt_cmpR (op_uLt hr.units) (pv 1) pe_int (nomark _)) (pw_or1 (pt_cmpR op_uGe (pv 1) (z_gint g_PRIME (by rfl)) (nomark _))))) (pss_one (z_raise rfl E_InvalidKey (takes_of rfl rfl rfl rfl) (by rfl))) pss_nil))))
abbrev s_Ledger_init : Stmt := (inClass (topS 19) 0)
theorem sc_Ledger_init : FnScope N_Ledger_init ["self", "schema", "key"] (defScope s_Ledger_init) := ⟨rfl, rfl, rfl, by decide +kernel, rfl, by decide +kernel, by decide +kernel⟩
theorem ok_Ledger_init (D_check_key : DfnX P w K mg base 1 "check_key" ["key"] (sp_check_key K c)) {f : Addr} {fd : FuncData} (F : Fun K "__init__" "Ledger.__init__" s_Ledger_init f fd) : FnOk P w K mg base (L2.CX P w) 2 f fd ["self", "schema", "key"] (sp_Ledger_init K c) := by
  have sc := sc_Ledger_init
  refine F.okX sc_Ledger_init (fun vs H Q E h => ((w_Ledger_init (c := c)) vs H Q E h).1) (fun cdv A outer s H vs Q E hr h => ⟨T_Ledger_init K c (fun cls d _ H => E cls d H), ?_, ((w_Ledger_init (c := c)) vs H Q E h).2⟩)
  exact (pss_cons (ps_expr (z_callX D_check_key (passW (takes_of rfl rfl rfl rfl)) (hr.mono (by decide)) (by rfl) (pa_cons (pv 2) pa_nil)))
      (pss_cons (ps_fld (pv 0) (pv 1) rfl)
      (pss_cons (ps_fld (pv 0) (pe_tup (pa_cons (pe_ix ix_uIx (pv 2) pe_int (fun _ _ => rfl)) (pa_cons (pe_ix ix_uIx (pv 2) pe_int (fun _ _ => rfl)) pa_nil))) rfl)
      (pss_cons (ps_fld (pv 0) pe_int rfl)
      (pss_cons (ps_fld (pv 0) pe_int rfl)
      (pss_cons (ps_fld (pv 0) (pe_lst pa_nil) rfl)
      (pss_cons (ps_fld (pv 0) (pe_lst pa_nil) rfl)
      (pss_cons (ps_fld (pv 0) (pe_lst pa_nil) rfl)
      (pss_one (ps_fld (pv 0) pe_int rfl))))))))))
abbrev s_Catalog_init : Stmt := (inClass (topS 22) 0)
theorem sc_Catalog_init : FnScope N_Catalog_init ["self", "schema", "key", "shard"] (defScope s_Catalog_init) := ⟨rfl, rfl, rfl, by decide +kernel, rfl, by decide +kernel, by decide +kernel⟩
theorem ok_Catalog_init (C_Ledger : ClsF K mg c "Ledger" ["schema", "key", "now", "floor", "pins", "notes", "segments", "upcoming"]) (K_Ledger_init : MkrX P w K mg base 2 (c.cls "Ledger") ["self", "schema", "key"] (sp_Ledger_init K c)) {f : Addr} {fd : FuncData} (F : Fun K "__init__" "Catalog.__init__" s_Catalog_init f fd) : FnOk P w K mg base (L2.CX P w) 4 f fd ["self", "schema", "key", "shard"] (sp_Catalog_init K c) := by
  have sc := sc_Catalog_init
  refine F.okX sc_Catalog_init (fun vs H Q E h => ((w_Catalog_init (c := c)) vs H Q E h).1) (fun cdv A outer s H vs Q E hr h => ⟨T_Catalog_init K c (fun cls d _ H => E cls d H), ?_, ((w_Catalog_init (c := c)) vs H Q E h).2⟩)
  exact (pss_cons (ps_fld (pv 0) (z_makeX C_Ledger K_Ledger_init (passW (takes_of rfl rfl rfl rfl)) (hr.mono (by decide)) (by rfl) (pa_cons (pv 1) (pa_cons (pv 2) pa_nil))) rfl)
      (pss_cons (ps_fld (pv 0) (pe_lst pa_nil) rfl)
      (pss_cons (ps_fld (pv 0) (pe_lst pa_nil) rfl)
      (pss_cons (ps_fld (pv 0) (pe_lst (pa_cons (pe_tup (pa_cons pe_str (pa_cons (pv 3) pa_nil))) pa_nil)) rfl)
      (pss_one (ps_fld (pv 0) pe_int rfl))))))
abbrev s_is_letter : Stmt := (topS 28)
theorem sc_is_letter : FnScope N_is_letter ["sign"] (defScope s_is_letter) := ⟨rfl, rfl, rfl, by decide +kernel, rfl, by decide +kernel, by decide +kernel⟩
theorem ok_is_letter {f : Addr} {fd : FuncData} (F : Fun K "is_letter" "is_letter" s_is_letter f fd) : FnOk P w K mg base CX0 1 f fd ["sign"] (sp_is_letter K c) := by
  have sc := sc_is_letter
  refine F.ok sc_is_letter (fun vs H Q E h => ((w_is_letter (c := c)) vs H Q E h).1) (fun cdv A outer s H vs Q E hr h => ⟨T_is_letter K, ?_, ((w_is_letter (c := c)) vs H Q E h).2⟩)
  exact (pss_one (ps_ret (pe_or (pe_chain op_uLe op_uLe pe_str (pv 0) pe_str) (pe_or (pe_chain op_uLe op_uLe pe_str (pv 0) pe_str) (pe_one (pe_cmpR (op_uEq hr.units) (pv 0) pe_str (nomark _)))))))
abbrev s_is_digit : Stmt := (topS 29)
theorem sc_is_digit : FnScope N_is_digit ["sign"] (defScope s_is_digit) := ⟨rfl, rfl, rfl, by decide +kernel, rfl, by decide +kernel, by decide +kernel⟩
theorem ok_is_digit {f : Addr} {fd : FuncData} (F : Fun K "is_digit" "is_digit" s_is_digit f fd) : FnOk P w K mg base CX0 1 f fd ["sign"] (sp_is_digit K c) := by
  have sc := sc_is_digit
  refine F.ok sc_is_digit (fun vs H Q E h => ((w_is_digit (c := c)) vs H Q E h).1) (fun cdv A outer s H vs Q E hr h => ⟨T_is_digit K, ?_, ((w_is_digit (c := c)) vs H Q E h).2⟩)
  exact (pss_one (ps_ret (pe_chain op_uLe op_uLe pe_str (pv 0) pe_str)))
abbrev s_is_field_name : Stmt := (topS 30)
theorem sc_is_field_name : FnScope N_is_field_name ["name"] (defScope s_is_field_name) := ⟨rfl, rfl, rfl, by decide +kernel, rfl, by decide +kernel, by decide +kernel⟩
theorem ok_is_field_name (D_is_letter : Dfn P w K mg base 1 "is_letter" ["sign"] (sp_is_letter K c)) (D_is_digit : Dfn P w K mg base 1 "is_digit" ["sign"] (sp_is_digit K c)) (g_WORDS : ∃ T, mg "WORDS" = some (.ref T) ∧ ∀ H, SqT K H T [.str "every", .str "has", .str "in", .str "and", .str "or", .str "not", .str "true", .str "false"]) {f : Addr} {fd : FuncData} (F : Fun K "is_field_name" "is_field_name" s_is_field_name f fd) : FnOk P w K mg base CX0 2 f fd ["name"] (sp_is_field_name K c) := by
  have sc := sc_is_field_name
  refine F.ok sc_is_field_name (fun vs H Q E h => ((w_is_field_name (c := c)) vs H Q E h).1) (fun cdv A outer s H vs Q E hr h => ⟨T_is_field_name K c, ?_, ((w_is_field_name (c := c)) vs H Q E h).2⟩)
  exact (pss_cons (ps_if (PW.pt (pw_or (pt_cmpR (op_uEq hr.units) (pv 0) pe_str (nomark _)) (pw_or (pt_not (pt_u (z_call D_is_letter (hr.mono (by decide)) (by rfl) (pa_cons (pe_ix ix_uIx (pv 0) pe_int (fun _ _ => rfl)) pa_nil)))) (pw_or1 (pt_cmpR op_uIn (pv 0) (z_gtup g_WORDS (by rfl)) (by rfl)))))) (pss_one (ps_ret pe_bl)) pss_nil)
      (pss_cons (ps_for PassesOwn.never rfl (pi_str (pv 0)) (pg_name (i := 1) sc.nd rfl (by first | exact Or.inl rfl | exact Or.inr rfl)) (pss_one (ps_if (PW.pt (pw_and (pt_not (pt_u (z_call D_is_letter (hr.mono (by decide)) (by rfl) (pa_cons (pv 1) pa_nil)))) (pw_and1 (pt_not (pt_u (z_call D_is_digit (hr.mono (by decide)) (by rfl) (pa_cons (pv 1) pa_nil))))))) (pss_one (ps_ret pe_bl)) pss_nil)))
      (pss_one (ps_ret pe_bl))))
abbrev s_Schema_init : Stmt := (inClass (topS 33) 0)
theorem sc_Schema_init : FnScope N_Schema_init ["self", "size", "width", "measure", "fields"] (defScope s_Schema_init) := ⟨rfl, rfl, rfl, by decide +kernel, rfl, by decide +kernel, by decide +kernel⟩
theorem ok_Schema_init (E_InvalidSchema : ExcF K mg c "InvalidSchema") (D_is_field_name : Dfn P w K mg base 2 "is_field_name" ["name"] (sp_is_field_name K c)) (m_tuple : mg "tuple" = none) (g_RANGES : KD K w mg "RANGES" [("bit", .t [.int 0, .int 1]), ("small", .t [.int (-128), .int 127]), ("wide", .t [.int (-32768), .int 32767])]) (g_MEASURES : ∃ T, mg "MEASURES" = some (.ref T) ∧ ∀ H, SqT K H T [.str "square", .str "dot", .str "bits"]) (g_KINDS : ∃ T, mg "KINDS" = some (.ref T) ∧ ∀ H, SqT K H T [.str "integer", .str "text", .str "flag"]) {f : Addr} {fd : FuncData} (F : Fun K "__init__" "Schema.__init__" s_Schema_init f fd) : FnOk P w K mg base (L2.CX P w) 3 f fd ["self", "size", "width", "measure", "fields"] (sp_Schema_init K c) := by
  have sc := sc_Schema_init
  refine F.okX sc_Schema_init (fun vs H Q E h => ((w_Schema_init (c := c)) vs H Q E h).1) (fun cdv A outer s H vs Q E hr h => ⟨T_Schema_init K c (fun cls d _ H => E cls d H), ?_, ((w_Schema_init (c := c)) vs H Q E h).2⟩)
  exact (pss_cons (ps_if (PW.pt (pw_or (pt_cmpR (op_uLt hr.units) (pv 1) pe_int (nomark _)) (pw_or (z_koutP g_RANGES (pv 2) (by rfl)) (pw_or1 (pt_cmpR op_uNotIn (pv 3) (z_gtup g_MEASURES (by rfl)) (by rfl)))))) (pss_one (z_raise rfl E_InvalidSchema (takes_of rfl rfl rfl rfl) (by rfl))) pss_nil)
      (pss_cons (ps_if (PW.pt (pw_and (pt_cmpR (op_uEq hr.units) (pv 3) pe_str (nomark _)) (pw_and1 (pt_cmpR (op_uNe hr.units) (pv 2) pe_str (nomark _))))) (pss_one (z_raise rfl E_InvalidSchema (takes_of rfl rfl rfl rfl) (by rfl))) pss_nil)
      (pss_cons (ps_set (i := 5) sc.nd rfl (by first | exact Or.inl rfl | exact Or.inr rfl) (pe_lst pa_nil))
      (pss_cons (ps_for (passes_of rfl) rfl (pi_sq (pv 4)) (pg_tup rfl (pgs_cons (pg_name (i := 6) sc.nd rfl (by first | exact Or.inl rfl | exact Or.inr rfl)) (pgs_cons (pg_name (i := 7) sc.nd rfl (by first | exact Or.inl rfl | exact Or.inr rfl)) pgs_nil))) (pss_cons (ps_if (PW.pt (pw_or (pt_cmpR op_uNotIn (pv 7) (z_gtup g_KINDS (by rfl)) (by rfl)) (pw_or (pt_not (pt_u (z_call D_is_field_name (hr.mono (by decide)) (by rfl) (pa_cons (pv 6) pa_nil)))) (pw_or1 (pt_cmpR op_uIn (pv 6) (pv 5) (by rfl)))))) (pss_one (z_raise rfl E_InvalidSchema (takes_of rfl rfl rfl rfl) (by rfl))) pss_nil)
      (pss_one (ps_expr (pe_bm PySem.F.plainAttrs_list PySem.F.slot_list_append PySem.F.type_list_append mt_append (pv 5) (pa_cons (pv 6) pa_nil))))))
      (pss_cons (ps_fld (pv 0) (pv 1) rfl)
      (pss_cons (ps_fld (pv 0) (pv 2) rfl)
      (pss_cons (ps_fld (pv 0) (pv 3) rfl)
      (pss_one (ps_fld (pv 0) (pe_callTy call_uTuple (by rfl) m_tuple (by decide +kernel) (pa_cons (pe_lc (own := [("name", 6), ("kind", 7)]) (g := (gTup K 2 (gCons (gName 6) (gCons (gName 7) gNil)))) (tt := tYes) rfl sc.nd (pi_sq (pv 4)) (blkOk_by (N := N_Schema_init) (sc := defScope s_Schema_init) (by decide +kernel)) (fun _ _ _ _ _ => (pg_tup rfl (pgs_cons (pg_name (i := 6) sc.nd rfl (by first | exact Or.inl rfl | exact Or.inr rfl)) (pgs_cons (pg_name (i := 7) sc.nd rfl (by first | exact Or.inl rfl | exact Or.inr rfl)) pgs_nil)))) (fun _ _ _ _ _ => pts_nil) (fun _ _ _ _ _ => (pe_tup (pa_cons (pv 6) (pa_cons (pv 7) pa_nil))))) pa_nil)) rfl)))))))))
abbrev s_law_row : Stmt := (topS 35)
theorem sc_law_row : FnScope N_law_row ["_law_script", "_law_k"] (defScope s_law_row) := ⟨rfl, rfl, rfl, by decide +kernel, rfl, by decide +kernel, by decide +kernel⟩
theorem ok_law_row (m_len : mg "len" = none) (m_int : mg "int" = none) {f : Addr} {fd : FuncData} (F : Fun K "_law_row" "_law_row" s_law_row f fd) : FnOk P w K mg base CX0 1 f fd ["_law_script", "_law_k"] (sp_law_row K) := by
  have sc := sc_law_row
  refine F.ok sc_law_row (fun vs H Q E h => ((w_law_row) vs H Q E h).1) (fun cdv A outer s H vs Q E hr h => ⟨T_law_row K, ?_, ((w_law_row) vs H Q E h).2⟩)
  exact (pss_cons (ps_set (i := 2) sc.nd rfl (by first | exact Or.inl rfl | exact Or.inr rfl) pe_int)
      (pss_cut (ps_if (pt_cmpR (op_uLt hr.units) (pv 1) (pe_callB call_uLen (by rfl) m_len (by decide +kernel) (pa_cons (pv 0) pa_nil)) (nomark _)) (pss_one (ps_set (i := 2) sc.nd rfl (by first | exact Or.inl rfl | exact Or.inr rfl) (pe_ix ix_uIx (pv 0) (pv 1) (fun _ _ => rfl)))) pss_nil)
      (pss_cut (ps_if (pt_cmpR (op_uLt hr.units) (pv 2) pe_int (nomark _)) (pss_one (ps_set (i := 2) sc.nd rfl (by first | exact Or.inl rfl | exact Or.inr rfl) (pe_op op_uSub (pe_op op_uMul (pe_un un_uNeg pe_int) (pv 2)) pe_int))) pss_nil)
      (pss_cut (ps_if (pt_cmpR (op_uLt hr.units) (pv 2) (pe_op op_uPow pe_int pe_int) (nomark _)) (pss_cons (ps_set (i := 3) sc.nd rfl (by first | exact Or.inl rfl | exact Or.inr rfl) (pe_op op_uMod (pe_callTy call_uInt (by rfl) m_int (by decide +kernel) (pa_cons (pe_op op_uAdd (pe_op op_uAdd (pe_op op_uMul (pv 2) pe_int) (pe_op op_uMul (pv 1) pe_int)) pe_int) pa_nil)) pe_int))
      (pss_cons (ps_set (i := 4) sc.nd rfl (by first | exact Or.inl rfl | exact Or.inr rfl) (pe_op op_uMod (pe_callTy call_uInt (by rfl) m_int (by decide +kernel) (pa_cons (pe_op op_uAdd (pe_op op_uAdd (pe_op op_uAdd (pe_op op_uMul (pv 3) pe_int) (pe_op op_uMul (pv 2) pe_int)) (pv 1)) pe_int) pa_nil)) pe_int))
      (pss_cons (ps_set (i := 5) sc.nd rfl (by first | exact Or.inl rfl | exact Or.inr rfl) (pe_op op_uMod (pe_callTy call_uInt (by rfl) m_int (by decide +kernel) (pa_cons (pe_op op_uAdd (pe_op op_uAdd (pe_op op_uMul (pv 4) pe_int) (pe_op op_uMul (pv 3) (pv 4))) pe_int) pa_nil)) pe_int))
      (pss_one (ps_set (i := 2) sc.nd rfl (by first | exact Or.inl rfl | exact Or.inr rfl) (pe_op op_uAdd (pe_op op_uAdd (pv 3) (pe_op op_uMul (pv 4) pe_int)) (pe_op op_uMul (pv 5) (pe_op op_uPow pe_int pe_int)))))))) pss_nil)
      (pss_one (ps_ret (pv 2)))))))
abbrev s_law_next : Stmt := (topS 36)
theorem sc_law_next : FnScope N_law_next ["_law_state", "_law_many"] (defScope s_law_next) := ⟨rfl, rfl, rfl, by decide +kernel, rfl, by decide +kernel, by decide +kernel⟩
theorem ok_law_next (D_law_row : Dfn P w K mg base 1 "_law_row" ["_law_script", "_law_k"] (sp_law_row K)) (m_int : mg "int" = none) {f : Addr} {fd : FuncData} (F : Fun K "_law_next" "_law_next" s_law_next f fd) : FnOk P w K mg base CX0 2 f fd ["_law_state", "_law_many"] (sp_law_next K) := by
  have sc := sc_law_next
  refine F.ok sc_law_next (fun vs H Q E h => ((w_law_next) vs H Q E h).1) (fun cdv A outer s H vs Q E hr h => ⟨T_law_next K, ?_, ((w_law_next) vs H Q E h).2⟩)
  exact (pss_cut (ps_if (pt_cmpR (op_uLt hr.units) (pe_ix ix_uIx (pv 0) pe_int (fun _ _ => rfl)) (pv 1) (nomark _)) (pss_cons (ps_asg (z_call D_law_row (hr.mono (by decide)) (by rfl) (pa_cons (pe_ix ix_uIx (pv 0) pe_int (fun _ _ => rfl)) (pa_cons (pe_ix ix_uIx (pv 0) pe_int (fun _ _ => rfl)) pa_nil))) (pg_sub (pv 0) pe_int set_list))
      (pss_one (ps_asg (pe_op op_uAdd (pe_ix ix_uIx (pv 0) pe_int (fun _ _ => rfl)) pe_int) (pg_sub (pv 0) pe_int set_list)))) pss_nil)
      (pss_cons (ps_set (i := 2) sc.nd rfl (by first | exact Or.inl rfl | exact Or.inr rfl) (pe_op op_uMod (pe_callTy call_uInt (by rfl) m_int (by decide +kernel) (pa_cons (pe_ix ix_uIx (pv 0) pe_int (fun _ _ => rfl)) pa_nil)) (pv 1)))
      (pss_cons (ps_asg (pe_op op_uDiv (pe_ix ix_uIx (pv 0) pe_int (fun _ _ => rfl)) (pv 1)) (pg_sub (pv 0) pe_int set_list))
      (pss_one (ps_ret (pv 2))))))
abbrev s_law_word : Stmt := (topS 37)
theorem sc_law_word : FnScope N_law_word ["_law_state"] (defScope s_law_word) := ⟨rfl, rfl, rfl, by decide +kernel, rfl, by decide +kernel, by decide +kernel⟩
theorem ok_law_word (D_law_next : Dfn P w K mg base 2 "_law_next" ["_law_state", "_law_many"] (sp_law_next K)) (m_range : mg "range" = none) {f : Addr} {fd : FuncData} (F : Fun K "_law_word" "_law_word" s_law_word f fd) : FnOk P w K mg base CX0 3 f fd ["_law_state"] (sp_law_word K c) := by
  have sc := sc_law_word
  refine F.ok sc_law_word (fun vs H Q E h => ((w_law_word (c := c)) vs H Q E h).1) (fun cdv A outer s H vs Q E hr h => ⟨T_law_word K, ?_, ((w_law_word (c := c)) vs H Q E h).2⟩)
  exact (pss_cons (ps_set (i := 1) sc.nd rfl (by first | exact Or.inl rfl | exact Or.inr rfl) pe_str)
      (pss_cons (ps_for PassesOwn.never rfl (pi_range1 (by rfl) m_range (pa_cons (z_call D_law_next (hr.mono (by decide)) (by rfl) (pa_cons (pv 0) (pa_cons pe_int pa_nil))) pa_nil)) (pg_name (i := 2) sc.nd rfl (by first | exact Or.inl rfl | exact Or.inr rfl)) (pss_one (ps_set (i := 1) sc.nd rfl (by first | exact Or.inl rfl | exact Or.inr rfl) (pe_op op_uAdd (pv 1) (pe_ix ix_uIx pe_str (z_call D_law_next (hr.mono (by decide)) (by rfl) (pa_cons (pv 0) (pa_cons pe_int pa_nil))) (fun _ _ => rfl))))))
      (pss_one (ps_ret (pv 1)))))
abbrev s_put_route : Stmt := (topS 21)
theorem sc_put_route : FnScope N_put_route ["routes", "low", "shard"] (defScope s_put_route) := ⟨rfl, rfl, rfl, by decide +kernel, rfl, by decide +kernel, by decide +kernel⟩
theorem ok_put_route (m_sorted : mg "sorted" = none) {f : Addr} {fd : FuncData} (F : Fun K "put_route" "put_route" s_put_route f fd) (LM_put_route : ZL.LamF base mg c.tb fd "put_route") : FnOk P w K mg base CX0 5 f fd ["routes", "low", "shard"] (sp_put_route K c) := by
  have sc := sc_put_route
  refine ZL.okL F LM_put_route sc_put_route (fun vs H Q E h => ((w_put_route (c := c)) vs H Q E h).1) (fun c0 P0 TB hm hu A outer s H vs Q E hr h => ⟨T_put_route K c, ?_, ((w_put_route (c := c)) vs H Q E h).2⟩)
  exact (pss_cons (by first | exact (ps_setLc (i := 3) (own := [("row", 4)]) (g := (gName 4)) (tt := (tTest (tOp (uNe K) (tOp (uIx K) (tVar 4) (tC (.int 0))) (tVar 1)))) rfl sc.nd rfl rfl (sw_true rfl rfl rfl (by decide +kernel)) (pi_sq (pv 0)) (blkOk_by (N := N_put_route) (sc := defScope s_put_route) (by decide +kernel)) (fun _ _ _ _ _ => (pg_name (i := 4) sc.nd rfl (by first | exact Or.inl rfl | exact Or.inr rfl))) (fun _ _ _ _ _ => (pts_one (pt_cmpR (op_uNe hr.units) (pe_ix ix_uIx (pv 4) pe_int (fun _ _ => rfl)) (pv 1) (nomark _)))) (fun _ _ _ _ _ => (pv 4))) | exact (ps_set (i := 3) sc.nd rfl (Or.inr rfl) (pe_lc (own := [("row", 4)]) (g := (gName 4)) (tt := (tTest (tOp (uNe K) (tOp (uIx K) (tVar 4) (tC (.int 0))) (tVar 1)))) rfl sc.nd (pi_sq (pv 0)) (blkOk_by (N := N_put_route) (sc := defScope s_put_route) (by decide +kernel)) (fun _ _ _ _ _ => (pg_name (i := 4) sc.nd rfl (by first | exact Or.inl rfl | exact Or.inr rfl))) (fun _ _ _ _ _ => (pts_one (pt_cmpR (op_uNe hr.units) (pe_ix ix_uIx (pv 4) pe_int (fun _ _ => rfl)) (pv 1) (nomark _)))) (fun _ _ _ _ _ => (pv 4)))))
      (pss_one (ps_ret (ZL.pe_srtK (k := 1) (by rfl) m_sorted (pe_op op_uAdd (pv 3) (pe_lst (pa_cons (pe_tup (pa_cons (pv 1) (pa_cons (pv 2) pa_nil))) pa_nil))) TB rfl hm hu (hr.mono (by decide)) (ZL.lamS1_by (sc := defScope s_put_route) (by decide +kernel)) rfl (fun _ _ _ _ _ _ => rfl) (fun A s H f c2 hr2 => (pe_ix ix_uIx (pv 4) pe_int (fun _ _ => rfl))) rfl (ZL.at_inj sc.nd rfl)))))
abbrev s_Catalog_change : Stmt := (inClass (topS 22) 11)
theorem sc_Catalog_change : FnScope N_Catalog_change ["self", "deed"] (defScope s_Catalog_change) := ⟨rfl, rfl, rfl, by decide +kernel, rfl, by decide +kernel, by decide +kernel⟩
theorem ok_Catalog_change (D_put_route : Dfn P w K mg base 5 "put_route" ["routes", "low", "shard"] (sp_put_route K c)) {f : Addr} {fd : FuncData} (F : Fun K "change" "Catalog.change" s_Catalog_change f fd) : FnOk P w K mg base (L2.CX P w) 6 f fd ["self", "deed"] (sp_Catalog_change K c) := by
  have sc := sc_Catalog_change
  refine F.okX sc_Catalog_change (fun vs H Q E h => ((w_Catalog_change (c := c)) vs H Q E h).1) (fun cdv A outer s H vs Q E hr h => ⟨T_Catalog_change K c (fun cls d _ H => E cls d H), ?_, ((w_Catalog_change (c := c)) vs H Q E h).2⟩)
  exact (pss_cons (ps_if (pt_cmpR (op_uEq hr.units) (pe_ix ix_uIx (pv 1) pe_int (fun _ _ => rfl)) pe_str (nomark _)) (pss_one ps_never) pss_nil)
      (pss_cons (ps_if (pt_cmpR (op_uEq hr.units) (pe_ix ix_uIx (pv 1) pe_int (fun _ _ => rfl)) pe_str (nomark _)) (pss_cons ps_never
      (pss_one (ps_ret pe_non))) pss_nil)
      (pss_cons (ps_if (pt_cmpR (op_uEq hr.units) (pe_ix ix_uIx (pv 1) pe_int (fun _ _ => rfl)) pe_str (nomark _)) (pss_cons ps_never
      (pss_one (ps_ret pe_non))) pss_nil)
      (pss_cons (ps_if (pt_cmpR (op_uEq hr.units) (pe_ix ix_uIx (pv 1) pe_int (fun _ _ => rfl)) pe_str (nomark _)) (pss_cons (ps_fld (pv 0) (z_call D_put_route (hr.mono (by decide)) (by rfl) (pa_cons (pe_fld (pv 0) rfl) (pa_cons (pe_ix ix_uIx (pv 1) pe_int (fun _ _ => rfl)) (pa_cons (pe_ix ix_uIx (pv 1) pe_int (fun _ _ => rfl)) pa_nil)))) rfl)
      (pss_one (ps_ret (pe_ix ix_uIx (pv 1) pe_int (fun _ _ => rfl))))) pss_nil)
      (pss_cons (ps_if (pt_cmpR (op_uEq hr.units) (pe_ix ix_uIx (pv 1) pe_int (fun _ _ => rfl)) pe_str (nomark _)) (pss_cons ps_never
      (pss_one (ps_ret (pe_fld (pv 0) rfl)))) pss_nil)
      (pss_one ps_never))))))
abbrev s_Catalog_settle : Stmt := (inClass (topS 22) 7)
theorem sc_Catalog_settle : FnScope N_Catalog_settle ["self"] (defScope s_Catalog_settle) := ⟨rfl, rfl, rfl, by decide +kernel, rfl, by decide +kernel, by decide +kernel⟩
theorem ok_Catalog_settle {f : Addr} {fd : FuncData} (F : Fun K "settle" "Catalog.settle" s_Catalog_settle f fd) : FnOk P w K mg base CX0 1 f fd ["self"] (sp_Catalog_settle K c) := by
  have sc := sc_Catalog_settle
  refine F.ok sc_Catalog_settle (fun vs H Q E h => ((w_Catalog_settle (c := c)) vs H Q E h).1) (fun cdv A outer s H vs Q E hr h => ⟨T_Catalog_settle K, ?_, ((w_Catalog_settle (c := c)) vs H Q E h).2⟩)
  exact (pss_cons (ps_set (i := 1) sc.nd rfl (by first | exact Or.inl rfl | exact Or.inr rfl) (pe_lst pa_nil))
      (pss_cons (ps_for PassesOwn.never rfl (pi_sq (pe_fld (pv 0) rfl)) (pg_tup rfl (pgs_cons (pg_name (i := 2) sc.nd rfl (by first | exact Or.inl rfl | exact Or.inr rfl)) (pgs_cons (pg_name (i := 3) sc.nd rfl (by first | exact Or.inl rfl | exact Or.inr rfl)) (pgs_cons (pg_name (i := 4) sc.nd rfl (by first | exact Or.inl rfl | exact Or.inr rfl)) pgs_nil)))) (pss_one ps_never))
      (pss_one (ps_fld (pv 0) (pv 1) rfl))))
abbrev s_Catalog_apply : Stmt := (inClass (topS 22) 12)
theorem sc_Catalog_apply : FnScope N_Catalog_apply ["self", "deed"] (defScope s_Catalog_apply) := ⟨rfl, rfl, rfl, by decide +kernel, rfl, by decide +kernel, by decide +kernel⟩
theorem ok_Catalog_apply (C_Catalog : ClsF K mg c "Catalog" ["ledger", "titles", "closed", "routes", "begins"]) (M_Catalog_change : MthX P w K mg base 6 (c.cls "Catalog") "change" ["self", "deed"] (sp_Catalog_change K c)) (M_Catalog_settle : Mth P w K mg base 1 (c.cls "Catalog") "settle" ["self"] (sp_Catalog_settle K c)) {f : Addr} {fd : FuncData} (F : Fun K "apply" "Catalog.apply" s_Catalog_apply f fd) : FnOk P w K mg base (L2.CX P w) 7 f fd ["self", "deed"] (sp_Catalog_apply K c) := by
  have sc := sc_Catalog_apply
  refine F.okX sc_Catalog_apply (fun vs H Q E h => ((w_Catalog_apply (c := c)) vs H Q E h).1) (fun cdv A outer s H vs Q E hr h => ⟨T_Catalog_apply K c (fun cls d _ H => E cls d H), ?_, ((w_Catalog_apply (c := c)) vs H Q E h).2⟩)
  exact (pss_cons (ps_set (i := 2) sc.nd rfl (by first | exact Or.inl rfl | exact Or.inr rfl) (z_methX (pv 0) C_Catalog M_Catalog_change (passW (takes_of rfl rfl rfl rfl)) (hr.mono (by decide)) (pa_cons (pv 1) pa_nil)))
      (pss_cons (ps_expr (z_meth0 (pv 0) C_Catalog M_Catalog_settle (hr.mono (by decide))))
      (pss_one (ps_ret (pv 2)))))
abbrev s_Catalog_shard_of : Stmt := (inClass (topS 22) 2)
theorem sc_Catalog_shard_of : FnScope N_Catalog_shard_of ["self", "name"] (defScope s_Catalog_shard_of) := ⟨rfl, rfl, rfl, by decide +kernel, rfl, by decide +kernel, by decide +kernel⟩
theorem ok_Catalog_shard_of {f : Addr} {fd : FuncData} (F : Fun K "shard_of" "Catalog.shard_of" s_Catalog_shard_of f fd) : FnOk P w K mg base CX0 1 f fd ["self", "name"] (sp_Catalog_shard_of K c) := by
  have sc := sc_Catalog_shard_of
  refine F.ok sc_Catalog_shard_of (fun vs H Q E h => ((w_Catalog_shard_of (c := c)) vs H Q E h).1) (fun cdv A outer s H vs Q E hr h => ⟨T_Catalog_shard_of K, ?_, ((w_Catalog_shard_of (c := c)) vs H Q E h).2⟩)
  exact (pss_cons (ps_set (i := 2) sc.nd rfl (by first | exact Or.inl rfl | exact Or.inr rfl) (pe_ix ix_uIx (pe_ix ix_uIx (pe_fld (pv 0) rfl) pe_int (fun _ _ => rfl)) pe_int (fun _ _ => rfl)))
      (pss_cons (ps_for PassesOwn.never rfl (pi_sq (pe_fld (pv 0) rfl)) (pg_tup rfl (pgs_cons (pg_name (i := 3) sc.nd rfl (by first | exact Or.inl rfl | exact Or.inr rfl)) (pgs_cons (pg_name (i := 4) sc.nd rfl (by first | exact Or.inl rfl | exact Or.inr rfl)) pgs_nil))) (pss_one (ps_if (pt_cmpR op_uLe (pv 3) (pv 1) (nomark _)) (pss_one (ps_set (i := 2) sc.nd rfl (by first | exact Or.inl rfl | exact Or.inr rfl) (pv 4))) pss_nil)))
      (pss_one (ps_ret (pv 2)))))
abbrev s_law_due : Stmt := (topS 38)
theorem sc_law_due : FnScope N_law_due ["_law_routes", "_law_name"] (defScope s_law_due) := ⟨rfl, rfl, rfl, by decide +kernel, rfl, by decide +kernel, by decide +kernel⟩
theorem ok_law_due {f : Addr} {fd : FuncData} (F : Fun K "_law_due" "_law_due" s_law_due f fd) : FnOk P w K mg base CX0 1 f fd ["_law_routes", "_law_name"] (sp_law_due K c) := by
  have sc := sc_law_due
  refine F.ok sc_law_due (fun vs H Q E h => ((w_law_due (c := c)) vs H Q E h).1) (fun cdv A outer s H vs Q E hr h => ⟨T_law_due K, ?_, ((w_law_due (c := c)) vs H Q E h).2⟩)
  exact (pss_cons (ps_set (i := 2) sc.nd rfl (by first | exact Or.inl rfl | exact Or.inr rfl) pe_non)
      (pss_cons (ps_for PassesOwn.never rfl (pi_sq (pv 0)) (pg_tup rfl (pgs_cons (pg_name (i := 3) sc.nd rfl (by first | exact Or.inl rfl | exact Or.inr rfl)) (pgs_cons (pg_name (i := 4) sc.nd rfl (by first | exact Or.inl rfl | exact Or.inr rfl)) pgs_nil))) (pss_one (ps_if (PW.pt (pw_and (pt_cmpR op_uLe (pv 3) (pv 1) (nomark _)) (pw_and1 (PW.pt (pw_or (pt_cmpR op_uIs (pv 2) pe_non (nomark _)) (pw_or1 (pt_cmpR (op_uLt hr.units) (pe_ix ix_uIx (pv 2) pe_int (fun _ _ => rfl)) (pv 3) (nomark _)))))))) (pss_one (ps_set (i := 2) sc.nd rfl (by first | exact Or.inl rfl | exact Or.inr rfl) (pe_tup (pa_cons (pv 3) (pa_cons (pv 4) pa_nil))))) pss_nil)))
      (pss_one (ps_ret (pe_ix ix_uIx (pv 2) pe_int (fun _ _ => rfl))))))
abbrev s_law : Stmt := (topS 39)
theorem sc_law : FnScope N_law ["_law_script"] (defScope s_law) := ⟨rfl, rfl, rfl, by decide +kernel, rfl, by decide +kernel, by decide +kernel⟩
theorem ok_law (C_Catalog : ClsF K mg c "Catalog" ["ledger", "titles", "closed", "routes", "begins"]) (C_Schema : ClsF K mg c "Schema" ["size", "width", "measure", "fields"]) (K_Catalog_init : MkrX P w K mg base 4 (c.cls "Catalog") ["self", "schema", "key", "shard"] (sp_Catalog_init K c)) (K_Schema_init_1 : MkrK (L2.CX P w) P w K mg base 3 (c.cls "Schema") ["self", "size", "width", "measure", "fields"] (sp_Schema_init K c) 1 [] [(.v (.str "small")), (.v (.str "square")), .e] [(false, 0), (false, 1), (false, 2)]) (D_law_next : Dfn P w K mg base 2 "_law_next" ["_law_state", "_law_many"] (sp_law_next K)) (D_law_word : Dfn P w K mg base 3 "_law_word" ["_law_state"] (sp_law_word K c)) (M_Catalog_apply : MthX P w K mg base 7 (c.cls "Catalog") "apply" ["self", "deed"] (sp_Catalog_apply K c)) (M_Catalog_shard_of : Mth P w K mg base 1 (c.cls "Catalog") "shard_of" ["self", "name"] (sp_Catalog_shard_of K c)) (D_law_due : Dfn P w K mg base 1 "_law_due" ["_law_routes", "_law_name"] (sp_law_due K c)) (m_list : mg "list" = none) (m_range : mg "range" = none) (m_sorted : mg "sorted" = none) {f : Addr} {fd : FuncData} (F : Fun K "law" "law" s_law f fd) : FnOk P w K mg base CX0 8 f fd ["_law_script"] (sp_lawT K c) := by
  have sc := sc_law
  refine F.ok sc_law (fun vs H Q E h => ((w_law (c := c)) vs H Q E h).1) (fun cdv A outer s H vs Q E hr h => ⟨T_law K c, ?_, ((w_law (c := c)) vs H Q E h).2⟩)
  exact (pss_cons (ps_set (i := 1) sc.nd rfl (by first | exact Or.inl rfl | exact Or.inr rfl) (pe_lst (pa_cons (pe_callTy call_uList (by rfl) m_list (by decide +kernel) (pa_cons (pv 0) pa_nil)) (pa_cons pe_int (pa_cons pe_int pa_nil)))))
      (pss_cons (ps_set (i := 2) sc.nd rfl (by first | exact Or.inl rfl | exact Or.inr rfl) (z_makeX C_Catalog K_Catalog_init passF (hr.mono (by decide)) (by rfl) (pa_cons (z_makeK C_Schema K_Schema_init_1 passF (hr.mono (by decide)) (by rfl) (pa_cons pe_int pa_nil) pk_nil) (pa_cons (pe_tup (pa_cons pe_int (pa_cons pe_int pa_nil))) (pa_cons pe_int pa_nil)))))
      (pss_cons (ps_set (i := 3) sc.nd rfl (by first | exact Or.inl rfl | exact Or.inr rfl) (pe_lst (pa_cons (pe_tup (pa_cons pe_str (pa_cons pe_int pa_nil))) pa_nil)))
      (pss_cons (ps_for PassesOwn.never rfl (pi_range1 (by rfl) m_range (pa_cons (z_call D_law_next (hr.mono (by decide)) (by rfl) (pa_cons (pv 1) (pa_cons pe_int pa_nil))) pa_nil)) (pg_name (i := 4) sc.nd rfl (by first | exact Or.inl rfl | exact Or.inr rfl)) (pss_cons (ps_set (i := 5) sc.nd rfl (by first | exact Or.inl rfl | exact Or.inr rfl) (z_call D_law_word (hr.mono (by decide)) (by rfl) (pa_cons (pv 1) pa_nil)))
      (pss_cons (ps_set (i := 6) sc.nd rfl (by first | exact Or.inl rfl | exact Or.inr rfl) (z_call D_law_next (hr.mono (by decide)) (by rfl) (pa_cons (pv 1) (pa_cons pe_int pa_nil))))
      (pss_cons (ps_set (i := 3) sc.nd rfl (by first | exact Or.inl rfl | exact Or.inr rfl) (pe_op op_uAdd (pe_lc (own := [("_law_row_here", 7)]) (g := (gName 7)) (tt := (tTest (tOp (uNe K) (tOp (uIx K) (tVar 7) (tC (.int 0))) (tVar 5)))) rfl sc.nd (pi_sq (pv 3)) (blkOk_by (N := N_law) (sc := defScope s_law) (by decide +kernel)) (fun _ _ _ _ _ => (pg_name (i := 7) sc.nd rfl (by first | exact Or.inl rfl | exact Or.inr rfl))) (fun _ _ _ _ _ => (pts_one (pt_cmpR (op_uNe hr.units) (pe_ix ix_uIx (pv 7) pe_int (fun _ _ => rfl)) (pv 5) (nomark _)))) (fun _ _ _ _ _ => (pv 7))) (pe_lst (pa_cons (pe_tup (pa_cons (pv 5) (pa_cons (pv 6) pa_nil))) pa_nil))))
      (pss_one (ps_if (pt_cmpR (op_uNe hr.units) (z_methX (pv 2) C_Catalog M_Catalog_apply passF (hr.mono (by decide)) (pa_cons (pe_tup (pa_cons pe_str (pa_cons (pv 5) (pa_cons (pv 6) pa_nil)))) pa_nil)) (pv 6) (nomark _)) (pss_one (ps_ret pe_bl)) pss_nil))))))
      (pss_cons (ps_if (PW.pt (pw_or (pt_cmpR (op_uNe hr.units) (pe_fld (pv 2) rfl) (pe_callB (cr_sortedD hr.units) (by rfl) m_sorted (by decide +kernel) (pa_cons (pv 3) pa_nil)) (nomark _)) (pw_or (pt_cmpR (op_uNe hr.units) (pe_fld (pv 2) rfl) (pe_lst pa_nil) (nomark _)) (pw_or (pt_cmpR (op_uNe hr.units) (pe_fld (pv 2) rfl) (pe_lst pa_nil) (nomark _)) (pw_or1 (pt_cmpR (op_uNe hr.units) (pe_fld (pv 2) rfl) pe_int (nomark _))))))) (pss_one (ps_ret pe_bl)) pss_nil)
      (pss_cons (ps_for PassesOwn.never rfl (pi_range1 (by rfl) m_range (pa_cons pe_int pa_nil)) (pg_name (i := 4) sc.nd rfl (by first | exact Or.inl rfl | exact Or.inr rfl)) (pss_cons (ps_set (i := 8) sc.nd rfl (by first | exact Or.inl rfl | exact Or.inr rfl) (pe_op op_uAdd (z_call D_law_word (hr.mono (by decide)) (by rfl) (pa_cons (pv 1) pa_nil)) (z_call D_law_word (hr.mono (by decide)) (by rfl) (pa_cons (pv 1) pa_nil))))
      (pss_one (ps_if (pt_cmpR (op_uNe hr.units) (z_meth (pv 2) C_Catalog M_Catalog_shard_of (hr.mono (by decide)) (pa_cons (pv 8) pa_nil)) (z_call D_law_due (hr.mono (by decide)) (by rfl) (pa_cons (pv 3) (pa_cons (pv 8) pa_nil))) (nomark _)) (pss_one (ps_ret pe_bl)) pss_nil))))
      (pss_one (ps_ret (pe_and (pe_cmpR (op_uEq hr.units) (z_meth (pv 2) C_Catalog M_Catalog_shard_of (hr.mono (by decide)) (pa_cons pe_str pa_nil)) (z_call D_law_due (hr.mono (by decide)) (by rfl) (pa_cons (pv 3) (pa_cons pe_str pa_nil))) (nomark _)) (pe_one (pe_cmpR (op_uEq hr.units) (pe_fld (pe_fld (pv 2) rfl) rfl) pe_int (nomark _))))))))))))
end
def cEnv (C0 C1 C2 C3 C4 TT10 : Addr) : CEnv := ⟨fun x => (([("InvalidKey", C0), ("Ledger", C1), ("InvalidSchema", C2), ("Catalog", C3), ("Schema", C4)] : List (Str × Addr)).lookup x).getD 0, fun y => y ∈ ([] : List Str), fun y => y ∈ (["InvalidKey", "Ledger", "InvalidSchema", "Catalog", "Schema"] : List Str), [(TT10, (("put_route" : Str) ++ ".<locals>.") ++ "<lambda>")]⟩
theorem all_mk {l : PySem.W.OpenLaw} {w : World} {K : PySem.W.Frag} {h : Heap} {mg : Str → Option Value} {fa f0 f1 f2 f3 f4 f5 f6 f7 f8 f9 f10 f11 f12 f13 f14 f15 f16 C0 C1 C2 C3 C4  : Addr} (X : K.In h) (G : h.Ns mainGlobals mg) (hfa : mg "law" = some (.ref fa))
    {tg0 tg1_0 tg1_1 tg1_2 tg1_3 tg1_4 tg1_5 tg1_6 tg1_7 tg2_0 tg2_1 tg2_2 tx2_0_0 tx2_0_1 tx2_1_0 tx2_1_1 tx2_2_0 tx2_2_1 tg3_0 tg3_1 tg3_2 tg4_0 tg4_1 tg4_2 tt6_width tt6_measure : Tok}
    {kt2 : Addr} {ktn2 : Nat}
    {kh2_0 kh2_1 kh2_2 : Int}
    {kv2_0 kv2_1 kv2_2 : Addr} {kvd2_0 kvd2_1 kvd2_2 : Option Addr} {kvn2_0 kvn2_1 kvn2_2 : Nat} {kvs2_0 kvs2_1 kvs2_2 : Array (Option Value)}
    {kt1 kt3 kt4 : Addr} {ktd1 ktd3 ktd4 : Option Addr} {ktn1 ktn3 ktn4 : Nat} {kts1 kts3 kts4 : Array (Option Value)}
    {kD6 kT6_fields : Addr}
    {ddkT6_fields : Option Addr} {nnkT6_fields : Nat} {sskT6_fields : Array (Option Value)}
    {od0 an0 od1 an1 od2 an2 od3 an3 od4 an4 od5 an5 od6 an6 od7 an7 od8 an8 od9 an9 od10 an10 od11 an11 od12 an12 od13 an13 od14 an14 od15 an15 od16 an16 : Option Addr} {sl0 sl1 sl2 sl3 sl4 sl5 sl6 sl7 sl8 sl9 sl10 sl11 sl12 sl13 sl14 sl15 sl16 : Array (Option Value)} {oc0 kV0 dc0 pm0 cd0 ct0 oc1 kV1 dc1 pm1 cd1 ct1 oc2 kV2 dc2 pm2 cd2 ct2 oc3 kV3 dc3 pm3 cd3 ct3 oc4 kV4 dc4 pm4 cd4 ct4 oc5 kV5 dc5 pm5 cd5 ct5 oc6 dc6 pm6 cd6 ct6 oc7 kV7 dc7 pm7 cd7 ct7 oc8 kV8 dc8 pm8 cd8 ct8 oc9 kV9 dc9 pm9 cd9 ct9 oc10 kV10 dc10 pm10 ct10 oc11 kV11 dc11 pm11 cd11 ct11 oc12 kV12 dc12 pm12 cd12 ct12 oc13 kV13 dc13 pm13 cd13 ct13 oc14 kV14 dc14 pm14 cd14 ct14 oc15 kV15 dc15 pm15 cd15 ct15 oc16 kV16 dc16 pm16 cd16 ct16 : Value}
    {cc10 TT10 : Addr} {dc2_10 : Option Addr} {vs10 : Array Value} {ss2_10 : Array (Option Value)}
    (b0 : PySem.W.nsIn K mainGlobals "InvalidKey" = some (some (.ref C0)))
    (b1 : PySem.W.nsIn K mainGlobals "Ledger" = some (some (.ref C1)))
    (b2 : PySem.W.nsIn K mainGlobals "InvalidSchema" = some (some (.ref C2)))
    (b3 : PySem.W.nsIn K mainGlobals "Catalog" = some (some (.ref C3)))
    (b4 : PySem.W.nsIn K mainGlobals "Schema" = some (some (.ref C4)))
    (xq0 : PySem.W.excIn K C0 [.type "ValueError", .type "Exception", .type "BaseException", .type "object"] "ValueError.__new__" = true)
    (kc0 : PySem.W.keepIn K (.ref C0) = true)
    (xb0 : PySem.W.subIn K (.ref C0) (.type "BaseException") = some true)
    (xt0 : PySem.W.typeIn K (.ref C0) = some (.type "type"))
    (pg1 : PySem.W.plainGet K C1 Str.empty = true)
    (hd1 : PySem.W.hasDictIn K C1 = true)
    (po1 : PySem.W.plainOver K C1 = true)
    (sa1 : PySem.W.findIn K (.ref C1) "__setattr__" = some (some (.builtin "object.__setattr__")))
    (ha1 : PySem.W.findIn K (.ref C1) "__class__" = some (some (.builtin "object.__class__")))
    (hm1 : PySem.W.mroIn K C1 (.type "object") = some true)
    (mk1 : PySem.W.makesIn K C1 = true)
    (kc1 : PySem.W.keepIn K (.ref C1) = true)
    (n1_0 : PySem.W.findIn K (.ref C1) "schema" = some none)
    (n1_1 : PySem.W.findIn K (.ref C1) "key" = some none)
    (n1_2 : PySem.W.findIn K (.ref C1) "now" = some none)
    (n1_3 : PySem.W.findIn K (.ref C1) "floor" = some none)
    (n1_4 : PySem.W.findIn K (.ref C1) "pins" = some none)
    (n1_5 : PySem.W.findIn K (.ref C1) "notes" = some none)
    (n1_6 : PySem.W.findIn K (.ref C1) "segments" = some none)
    (n1_7 : PySem.W.findIn K (.ref C1) "upcoming" = some none)
    (xq2 : PySem.W.excIn K C2 [.type "ValueError", .type "Exception", .type "BaseException", .type "object"] "ValueError.__new__" = true)
    (kc2 : PySem.W.keepIn K (.ref C2) = true)
    (xb2 : PySem.W.subIn K (.ref C2) (.type "BaseException") = some true)
    (xt2 : PySem.W.typeIn K (.ref C2) = some (.type "type"))
    (pg3 : PySem.W.plainGet K C3 Str.empty = true)
    (hd3 : PySem.W.hasDictIn K C3 = true)
    (po3 : PySem.W.plainOver K C3 = true)
    (sa3 : PySem.W.findIn K (.ref C3) "__setattr__" = some (some (.builtin "object.__setattr__")))
    (ha3 : PySem.W.findIn K (.ref C3) "__class__" = some (some (.builtin "object.__class__")))
    (hm3 : PySem.W.mroIn K C3 (.type "object") = some true)
    (mk3 : PySem.W.makesIn K C3 = true)
    (kc3 : PySem.W.keepIn K (.ref C3) = true)
    (n3_0 : PySem.W.findIn K (.ref C3) "ledger" = some none)
    (n3_1 : PySem.W.findIn K (.ref C3) "titles" = some none)
    (n3_2 : PySem.W.findIn K (.ref C3) "closed" = some none)
    (n3_3 : PySem.W.findIn K (.ref C3) "routes" = some none)
    (n3_4 : PySem.W.findIn K (.ref C3) "begins" = some none)
    (pg4 : PySem.W.plainGet K C4 Str.empty = true)
    (hd4 : PySem.W.hasDictIn K C4 = true)
    (po4 : PySem.W.plainOver K C4 = true)
    (sa4 : PySem.W.findIn K (.ref C4) "__setattr__" = some (some (.builtin "object.__setattr__")))
    (ha4 : PySem.W.findIn K (.ref C4) "__class__" = some (some (.builtin "object.__class__")))
    (hm4 : PySem.W.mroIn K C4 (.type "object") = some true)
    (mk4 : PySem.W.makesIn K C4 = true)
    (kc4 : PySem.W.keepIn K (.ref C4) = true)
    (n4_0 : PySem.W.findIn K (.ref C4) "size" = some none)
    (n4_1 : PySem.W.findIn K (.ref C4) "width" = some none)
    (n4_2 : PySem.W.findIn K (.ref C4) "measure" = some none)
    (n4_3 : PySem.W.findIn K (.ref C4) "fields" = some none)
    (hn : PySem.W.specialIn K (.builtin "object.__class__") "__get__" = some (some (.builtin "getset_descriptor.__get__")))
    (htk : PySem.W.takesIn K (.builtin "object.__class__") = some true)
    (nd : ([C0, C1, C2, C3, C4] : List Addr).Nodup)
    (a0 : PySem.W.nsIn K mainGlobals "check_key" = some (some (.ref f0)))
    (l0 : K.lookup f0 = some ⟨oc0, od0, .func (PySem.W.fnOf "check_key" "check_key" (defArgs s_check_key) (defBody s_check_key) (defScope s_check_key) .none kV0 dc0 pm0 an0 cd0 ct0), sl0⟩)
    (c0 : PySem.W.codeIn K cd0 "check_key" = true)
    (k0 : PySem.W.keepIn K (.ref f0) = true)
    (a1 : PySem.W.findIn K (.ref C1) "__init__" = some (some (.ref f1)))
    (i1 : PySem.W.isFn K (.ref f1) = true)
    (l1 : K.lookup f1 = some ⟨oc1, od1, .func (PySem.W.fnOf "__init__" "Ledger.__init__" (defArgs s_Ledger_init) (defBody s_Ledger_init) (defScope s_Ledger_init) .none kV1 dc1 pm1 an1 cd1 ct1), sl1⟩)
    (c1 : PySem.W.codeIn K cd1 "Ledger.__init__" = true)
    (k1 : PySem.W.keepIn K (.ref f1) = true)
    (a2 : PySem.W.findIn K (.ref C3) "__init__" = some (some (.ref f2)))
    (i2 : PySem.W.isFn K (.ref f2) = true)
    (l2 : K.lookup f2 = some ⟨oc2, od2, .func (PySem.W.fnOf "__init__" "Catalog.__init__" (defArgs s_Catalog_init) (defBody s_Catalog_init) (defScope s_Catalog_init) .none kV2 dc2 pm2 an2 cd2 ct2), sl2⟩)
    (c2 : PySem.W.codeIn K cd2 "Catalog.__init__" = true)
    (k2 : PySem.W.keepIn K (.ref f2) = true)
    (a3 : PySem.W.nsIn K mainGlobals "is_letter" = some (some (.ref f3)))
    (l3 : K.lookup f3 = some ⟨oc3, od3, .func (PySem.W.fnOf "is_letter" "is_letter" (defArgs s_is_letter) (defBody s_is_letter) (defScope s_is_letter) .none kV3 dc3 pm3 an3 cd3 ct3), sl3⟩)
    (c3 : PySem.W.codeIn K cd3 "is_letter" = true)
    (k3 : PySem.W.keepIn K (.ref f3) = true)
    (a4 : PySem.W.nsIn K mainGlobals "is_digit" = some (some (.ref f4)))
    (l4 : K.lookup f4 = some ⟨oc4, od4, .func (PySem.W.fnOf "is_digit" "is_digit" (defArgs s_is_digit) (defBody s_is_digit) (defScope s_is_digit) .none kV4 dc4 pm4 an4 cd4 ct4), sl4⟩)
    (c4 : PySem.W.codeIn K cd4 "is_digit" = true)
    (k4 : PySem.W.keepIn K (.ref f4) = true)
    (a5 : PySem.W.nsIn K mainGlobals "is_field_name" = some (some (.ref f5)))
    (l5 : K.lookup f5 = some ⟨oc5, od5, .func (PySem.W.fnOf "is_field_name" "is_field_name" (defArgs s_is_field_name) (defBody s_is_field_name) (defScope s_is_field_name) .none kV5 dc5 pm5 an5 cd5 ct5), sl5⟩)
    (c5 : PySem.W.codeIn K cd5 "is_field_name" = true)
    (k5 : PySem.W.keepIn K (.ref f5) = true)
    (a6 : PySem.W.findIn K (.ref C4) "__init__" = some (some (.ref f6)))
    (i6 : PySem.W.isFn K (.ref f6) = true)
    (l6 : K.lookup f6 = some ⟨oc6, od6, .func (PySem.W.fnOf "__init__" "Schema.__init__" (defArgs s_Schema_init) (defBody s_Schema_init) (defScope s_Schema_init) .none (.ref kD6) dc6 pm6 an6 cd6 ct6), sl6⟩)
    (c6 : PySem.W.codeIn K cd6 "Schema.__init__" = true)
    (k6 : PySem.W.keepIn K (.ref f6) = true)
    (a7 : PySem.W.nsIn K mainGlobals "_law_row" = some (some (.ref f7)))
    (l7 : K.lookup f7 = some ⟨oc7, od7, .func (PySem.W.fnOf "_law_row" "_law_row" (defArgs s_law_row) (defBody s_law_row) (defScope s_law_row) .none kV7 dc7 pm7 an7 cd7 ct7), sl7⟩)
    (c7 : PySem.W.codeIn K cd7 "_law_row" = true)
    (k7 : PySem.W.keepIn K (.ref f7) = true)
    (a8 : PySem.W.nsIn K mainGlobals "_law_next" = some (some (.ref f8)))
    (l8 : K.lookup f8 = some ⟨oc8, od8, .func (PySem.W.fnOf "_law_next" "_law_next" (defArgs s_law_next) (defBody s_law_next) (defScope s_law_next) .none kV8 dc8 pm8 an8 cd8 ct8), sl8⟩)
    (c8 : PySem.W.codeIn K cd8 "_law_next" = true)
    (k8 : PySem.W.keepIn K (.ref f8) = true)
    (a9 : PySem.W.nsIn K mainGlobals "_law_word" = some (some (.ref f9)))
    (l9 : K.lookup f9 = some ⟨oc9, od9, .func (PySem.W.fnOf "_law_word" "_law_word" (defArgs s_law_word) (defBody s_law_word) (defScope s_law_word) .none kV9 dc9 pm9 an9 cd9 ct9), sl9⟩)
    (c9 : PySem.W.codeIn K cd9 "_law_word" = true)
    (k9 : PySem.W.keepIn K (.ref f9) = true)
    (a10 : PySem.W.nsIn K mainGlobals "put_route" = some (some (.ref f10)))
    (l10 : K.lookup f10 = some ⟨oc10, od10, .func (PySem.W.fnOf "put_route" "put_route" (defArgs s_put_route) (defBody s_put_route) (defScope s_put_route) .none kV10 dc10 pm10 an10 (.ref cc10) ct10), sl10⟩)
    (c10 : PySem.W.codeIn K (.ref cc10) "put_route" = true)
    (k10 : PySem.W.keepIn K (.ref f10) = true)
    (a11 : PySem.W.findIn K (.ref C3) "change" = some (some (.ref f11)))
    (i11 : PySem.W.isFn K (.ref f11) = true)
    (l11 : K.lookup f11 = some ⟨oc11, od11, .func (PySem.W.fnOf "change" "Catalog.change" (defArgs s_Catalog_change) (defBody s_Catalog_change) (defScope s_Catalog_change) .none kV11 dc11 pm11 an11 cd11 ct11), sl11⟩)
    (c11 : PySem.W.codeIn K cd11 "Catalog.change" = true)
    (k11 : PySem.W.keepIn K (.ref f11) = true)
    (a12 : PySem.W.findIn K (.ref C3) "settle" = some (some (.ref f12)))
    (i12 : PySem.W.isFn K (.ref f12) = true)
    (l12 : K.lookup f12 = some ⟨oc12, od12, .func (PySem.W.fnOf "settle" "Catalog.settle" (defArgs s_Catalog_settle) (defBody s_Catalog_settle) (defScope s_Catalog_settle) .none kV12 dc12 pm12 an12 cd12 ct12), sl12⟩)
    (c12 : PySem.W.codeIn K cd12 "Catalog.settle" = true)
    (k12 : PySem.W.keepIn K (.ref f12) = true)
    (a13 : PySem.W.findIn K (.ref C3) "apply" = some (some (.ref f13)))
    (i13 : PySem.W.isFn K (.ref f13) = true)
    (l13 : K.lookup f13 = some ⟨oc13, od13, .func (PySem.W.fnOf "apply" "Catalog.apply" (defArgs s_Catalog_apply) (defBody s_Catalog_apply) (defScope s_Catalog_apply) .none kV13 dc13 pm13 an13 cd13 ct13), sl13⟩)
    (c13 : PySem.W.codeIn K cd13 "Catalog.apply" = true)
    (k13 : PySem.W.keepIn K (.ref f13) = true)
    (a14 : PySem.W.findIn K (.ref C3) "shard_of" = some (some (.ref f14)))
    (i14 : PySem.W.isFn K (.ref f14) = true)
    (l14 : K.lookup f14 = some ⟨oc14, od14, .func (PySem.W.fnOf "shard_of" "Catalog.shard_of" (defArgs s_Catalog_shard_of) (defBody s_Catalog_shard_of) (defScope s_Catalog_shard_of) .none kV14 dc14 pm14 an14 cd14 ct14), sl14⟩)
    (c14 : PySem.W.codeIn K cd14 "Catalog.shard_of" = true)
    (k14 : PySem.W.keepIn K (.ref f14) = true)
    (a15 : PySem.W.nsIn K mainGlobals "_law_due" = some (some (.ref f15)))
    (l15 : K.lookup f15 = some ⟨oc15, od15, .func (PySem.W.fnOf "_law_due" "_law_due" (defArgs s_law_due) (defBody s_law_due) (defScope s_law_due) .none kV15 dc15 pm15 an15 cd15 ct15), sl15⟩)
    (c15 : PySem.W.codeIn K cd15 "_law_due" = true)
    (k15 : PySem.W.keepIn K (.ref f15) = true)
    (a16 : PySem.W.nsIn K mainGlobals "law" = some (some (.ref f16)))
    (l16 : K.lookup f16 = some ⟨oc16, od16, .func (PySem.W.fnOf "law" "law" (defArgs s_law) (defBody s_law) (defScope s_law) .none kV16 dc16 pm16 an16 cd16 ct16), sl16⟩)
    (c16 : PySem.W.codeIn K cd16 "law" = true)
    (k16 : PySem.W.keepIn K (.ref f16) = true)
    (kd6_width : PySem.W.nsIn K kD6 "width" = some (some (.str "small" tt6_width)))
    (kd6_measure : PySem.W.nsIn K kD6 "measure" = some (some (.str "square" tt6_measure)))
    (kd6_fields : PySem.W.nsIn K kD6 "fields" = some (some (.ref kT6_fields)))
    (kx6_fields : K.lookup kT6_fields = some ⟨.type "tuple", ddkT6_fields, .seq ([] : List Value).toArray nnkT6_fields, sskT6_fields⟩)
    (lc10 : K.lookup cc10 = some ⟨.type "code", dc2_10, .fields vs10, ss2_10⟩)
    (lt10 : (vs10[11]? : Option Value) = some (.ref TT10))
    (lb10 : ZL.codeTail vs10 cc10 TT10 = true)
    (ln10 : K.lookup TT10 = none)
    (le10 : h.get? TT10 = some { cls := .none, data := .fields #[] })
    (tnd : ([TT10] : List Addr).Nodup)
    (z0 : PySem.W.nsIn K mainGlobals "tuple" = some none)
    (z1 : PySem.W.nsIn K mainGlobals "len" = some none)
    (z2 : PySem.W.nsIn K mainGlobals "int" = some none)
    (z3 : PySem.W.nsIn K mainGlobals "range" = some none)
    (z4 : PySem.W.nsIn K mainGlobals "sorted" = some none)
    (z5 : PySem.W.nsIn K mainGlobals "list" = some none)
    (kg0 : PySem.W.nsIn K mainGlobals "PRIME" = some (some (.int 4294967291 tg0)))
    (kg1 : PySem.W.nsIn K mainGlobals "WORDS" = some (some (.ref kt1)))
    (kl1 : K.lookup kt1 = some ⟨.type "tuple", ktd1, .seq ([.str "every" tg1_0, .str "has" tg1_1, .str "in" tg1_2, .str "and" tg1_3, .str "or" tg1_4, .str "not" tg1_5, .str "true" tg1_6, .str "false" tg1_7] : List Value).toArray ktn1, kts1⟩)
    (kg2 : PySem.W.nsIn K mainGlobals "RANGES" = some (some (.ref kt2)))
    (kl2 : K.lookup kt2 = some ⟨.type "dict", none, .dict ([⟨kh2_0, .str "bit" tg2_0, .ref kv2_0⟩, ⟨kh2_1, .str "small" tg2_1, .ref kv2_1⟩, ⟨kh2_2, .str "wide" tg2_2, .ref kv2_2⟩] : List DictEntry).toArray ktn2, #[]⟩)
    (kk2 : PySem.W.KeysLit w.params [⟨kh2_0, .str "bit" tg2_0, .ref kv2_0⟩, ⟨kh2_1, .str "small" tg2_1, .ref kv2_1⟩, ⟨kh2_2, .str "wide" tg2_2, .ref kv2_2⟩])
    (ko2 : (kt2 == sysModules) = false)
    (kw2_0 : K.lookup kv2_0 = some ⟨.type "tuple", kvd2_0, .seq ([.int 0 tx2_0_0, .int 1 tx2_0_1] : List Value).toArray kvn2_0, kvs2_0⟩)
    (kw2_1 : K.lookup kv2_1 = some ⟨.type "tuple", kvd2_1, .seq ([.int (-128) tx2_1_0, .int 127 tx2_1_1] : List Value).toArray kvn2_1, kvs2_1⟩)
    (kw2_2 : K.lookup kv2_2 = some ⟨.type "tuple", kvd2_2, .seq ([.int (-32768) tx2_2_0, .int 32767 tx2_2_1] : List Value).toArray kvn2_2, kvs2_2⟩)
    (kg3 : PySem.W.nsIn K mainGlobals "MEASURES" = some (some (.ref kt3)))
    (kl3 : K.lookup kt3 = some ⟨.type "tuple", ktd3, .seq ([.str "square" tg3_0, .str "dot" tg3_1, .str "bits" tg3_2] : List Value).toArray ktn3, kts3⟩)
    (kg4 : PySem.W.nsIn K mainGlobals "KINDS" = some (some (.ref kt4)))
    (kl4 : K.lookup kt4 = some ⟨.type "tuple", ktd4, .seq ([.str "integer" tg4_0, .str "text" tg4_1, .str "flag" tg4_2] : List Value).toArray ktn4, kts4⟩)
    : LamX.LawAtS l w K CX0 8 63 "_law_script" mg fa h := by
  have e := hfa.symm.trans (PySem.W.mg_of X G a16)
  cases e
  have m_tuple := PySem.W.mg_none_of X G z0
  have m_len := PySem.W.mg_none_of X G z1
  have m_int := PySem.W.mg_none_of X G z2
  have m_range := PySem.W.mg_none_of X G z3
  have m_sorted := PySem.W.mg_none_of X G z4
  have m_list := PySem.W.mg_none_of X G z5
  have g_PRIME : ∃ t, mg "PRIME" = some (.int 4294967291 t) := ⟨_, PySem.W.mg_of X G kg0⟩
  have g_WORDS : ∃ T, mg "WORDS" = some (.ref T) ∧ ∀ H, SqT K H T [.str "every", .str "has", .str "in", .str "and", .str "or", .str "not", .str "true", .str "false"] := ⟨_, PySem.W.mg_of X G kg1, sqT_lit kl1 (.cons ⟨_, rfl⟩ (.cons ⟨_, rfl⟩ (.cons ⟨_, rfl⟩ (.cons ⟨_, rfl⟩ (.cons ⟨_, rfl⟩ (.cons ⟨_, rfl⟩ (.cons ⟨_, rfl⟩ (.cons ⟨_, rfl⟩ .nil)))))))) (by decide)⟩
  have g_RANGES : KD K w mg "RANGES" [("bit", .t [.int 0, .int 1]), ("small", .t [.int (-128), .int 127]), ("wide", .t [.int (-32768), .int 32767])] := kd_of (PySem.W.mg_of X G kg2) kl2 kk2 ko2 (.cons ⟨⟨_, rfl⟩, ⟨.ref kv2_0, rfl, _, rfl, sqT_lit kw2_0 (.cons ⟨_, rfl⟩ (.cons ⟨_, rfl⟩ .nil)) (by decide)⟩⟩ (.cons ⟨⟨_, rfl⟩, ⟨.ref kv2_1, rfl, _, rfl, sqT_lit kw2_1 (.cons ⟨_, rfl⟩ (.cons ⟨_, rfl⟩ .nil)) (by decide)⟩⟩ (.cons ⟨⟨_, rfl⟩, ⟨.ref kv2_2, rfl, _, rfl, sqT_lit kw2_2 (.cons ⟨_, rfl⟩ (.cons ⟨_, rfl⟩ .nil)) (by decide)⟩⟩ .nil)))
  have g_MEASURES : ∃ T, mg "MEASURES" = some (.ref T) ∧ ∀ H, SqT K H T [.str "square", .str "dot", .str "bits"] := ⟨_, PySem.W.mg_of X G kg3, sqT_lit kl3 (.cons ⟨_, rfl⟩ (.cons ⟨_, rfl⟩ (.cons ⟨_, rfl⟩ .nil))) (by decide)⟩
  have g_KINDS : ∃ T, mg "KINDS" = some (.ref T) ∧ ∀ H, SqT K H T [.str "integer", .str "text", .str "flag"] := ⟨_, PySem.W.mg_of X G kg4, sqT_lit kl4 (.cons ⟨_, rfl⟩ (.cons ⟨_, rfl⟩ (.cons ⟨_, rfl⟩ .nil))) (by decide)⟩
  have E_InvalidKey : ExcF K mg (cEnv C0 C1 C2 C3 C4 TT10) "InvalidKey" := ⟨xq0, PySem.W.mg_of X G b0, kc0, xb0, xt0⟩
  have E_InvalidSchema : ExcF K mg (cEnv C0 C1 C2 C3 C4 TT10) "InvalidSchema" := ⟨xq2, PySem.W.mg_of X G b2, kc2, xb2, xt2⟩
  have F0 := fun_mk (st := s_check_key) l0 c0 k0
  have F1 := fun_mk (st := s_Ledger_init) l1 c1 k1
  have F2 := fun_mk (st := s_Catalog_init) l2 c2 k2
  have F3 := fun_mk (st := s_is_letter) l3 c3 k3
  have F4 := fun_mk (st := s_is_digit) l4 c4 k4
  have F5 := fun_mk (st := s_is_field_name) l5 c5 k5
  have F6 := fun_mk (st := s_Schema_init) l6 c6 k6
  have F7 := fun_mk (st := s_law_row) l7 c7 k7
  have F8 := fun_mk (st := s_law_next) l8 c8 k8
  have F9 := fun_mk (st := s_law_word) l9 c9 k9
  have F10 := fun_mk (st := s_put_route) l10 c10 k10
  have F11 := fun_mk (st := s_Catalog_change) l11 c11 k11
  have F12 := fun_mk (st := s_Catalog_settle) l12 c12 k12
  have F13 := fun_mk (st := s_Catalog_apply) l13 c13 k13
  have F14 := fun_mk (st := s_Catalog_shard_of) l14 c14 k14
  have F15 := fun_mk (st := s_law_due) l15 c15 k15
  have F16 := fun_mk (st := s_law) l16 c16 k16
  have O_Ledger : ClsOk K (cEnv C0 C1 C2 C3 C4 TT10) "Ledger" ["schema", "key", "now", "floor", "pins", "notes", "segments", "upcoming"] := ⟨⟨pg1, hd1, po1, sa1⟩, na_of (List.forall_mem_cons.mpr ⟨n1_0, (List.forall_mem_cons.mpr ⟨n1_1, (List.forall_mem_cons.mpr ⟨n1_2, (List.forall_mem_cons.mpr ⟨n1_3, (List.forall_mem_cons.mpr ⟨n1_4, (List.forall_mem_cons.mpr ⟨n1_5, (List.forall_mem_cons.mpr ⟨n1_6, (List.forall_mem_cons.mpr ⟨n1_7, (fun _ h => nomatch h)⟩)⟩)⟩)⟩)⟩)⟩)⟩)⟩), ha1, hn, htk, hm1, (fun _ h => nomatch h), (fun _ h => nomatch h), (by show _ ∈ (["InvalidKey", "Ledger", "InvalidSchema", "Catalog", "Schema"] : List Str); simp), fun y hy e => lk_inj (l := [("InvalidKey", C0), ("Ledger", C1), ("InvalidSchema", C2), ("Catalog", C3), ("Schema", C4)]) (show (["InvalidKey", "Ledger", "InvalidSchema", "Catalog", "Schema"] : List Str).Nodup by decide) nd (by show _ ∈ (["InvalidKey", "Ledger", "InvalidSchema", "Catalog", "Schema"] : List Str); simp) hy e⟩
  have C_Ledger : ClsF K mg (cEnv C0 C1 C2 C3 C4 TT10) "Ledger" ["schema", "key", "now", "floor", "pins", "notes", "segments", "upcoming"] := ⟨O_Ledger, fun h => absurd h (by show _ ∉ ([] : List Str); decide +kernel), PySem.W.mg_of X G b1⟩
  have O_Catalog : ClsOk K (cEnv C0 C1 C2 C3 C4 TT10) "Catalog" ["ledger", "titles", "closed", "routes", "begins"] := ⟨⟨pg3, hd3, po3, sa3⟩, na_of (List.forall_mem_cons.mpr ⟨n3_0, (List.forall_mem_cons.mpr ⟨n3_1, (List.forall_mem_cons.mpr ⟨n3_2, (List.forall_mem_cons.mpr ⟨n3_3, (List.forall_mem_cons.mpr ⟨n3_4, (fun _ h => nomatch h)⟩)⟩)⟩)⟩)⟩), ha3, hn, htk, hm3, (fun _ h => nomatch h), (fun _ h => nomatch h), (by show _ ∈ (["InvalidKey", "Ledger", "InvalidSchema", "Catalog", "Schema"] : List Str); simp), fun y hy e => lk_inj (l := [("InvalidKey", C0), ("Ledger", C1), ("InvalidSchema", C2), ("Catalog", C3), ("Schema", C4)]) (show (["InvalidKey", "Ledger", "InvalidSchema", "Catalog", "Schema"] : List Str).Nodup by decide) nd (by show _ ∈ (["InvalidKey", "Ledger", "InvalidSchema", "Catalog", "Schema"] : List Str); simp) hy e⟩
  have C_Catalog : ClsF K mg (cEnv C0 C1 C2 C3 C4 TT10) "Catalog" ["ledger", "titles", "closed", "routes", "begins"] := ⟨O_Catalog, fun h => absurd h (by show _ ∉ ([] : List Str); decide +kernel), PySem.W.mg_of X G b3⟩
  have O_Schema : ClsOk K (cEnv C0 C1 C2 C3 C4 TT10) "Schema" ["size", "width", "measure", "fields"] := ⟨⟨pg4, hd4, po4, sa4⟩, na_of (List.forall_mem_cons.mpr ⟨n4_0, (List.forall_mem_cons.mpr ⟨n4_1, (List.forall_mem_cons.mpr ⟨n4_2, (List.forall_mem_cons.mpr ⟨n4_3, (fun _ h => nomatch h)⟩)⟩)⟩)⟩), ha4, hn, htk, hm4, (fun _ h => nomatch h), (fun _ h => nomatch h), (by show _ ∈ (["InvalidKey", "Ledger", "InvalidSchema", "Catalog", "Schema"] : List Str); simp), fun y hy e => lk_inj (l := [("InvalidKey", C0), ("Ledger", C1), ("InvalidSchema", C2), ("Catalog", C3), ("Schema", C4)]) (show (["InvalidKey", "Ledger", "InvalidSchema", "Catalog", "Schema"] : List Str).Nodup by decide) nd (by show _ ∈ (["InvalidKey", "Ledger", "InvalidSchema", "Catalog", "Schema"] : List Str); simp) hy e⟩
  have C_Schema : ClsF K mg (cEnv C0 C1 C2 C3 C4 TT10) "Schema" ["size", "width", "measure", "fields"] := ⟨O_Schema, fun h => absurd h (by show _ ∉ ([] : List Str); decide +kernel), PySem.W.mg_of X G b4⟩
  refine ⟨PySem.W.fnOf "law" "law" (defArgs s_law) (defBody s_law) (defScope s_law) .none kV16 dc16 pm16 an16 cd16 ct16, ([(cc10, TT10)] : List (Addr × Addr)), sp_lawT K (cEnv C0 C1 C2 C3 C4 TT10), (List.forall_mem_cons.mpr ⟨le10, (fun _ h => nomatch h)⟩), (List.forall_mem_cons.mpr ⟨ln10, (fun _ h => nomatch h)⟩), (List.forall_mem_cons.mpr ⟨ZL.codeHd_at X lc10 lb10, (fun _ h => nomatch h)⟩), fun s v => .of_eq rfl, fun H a ns hl _ hT hS => ⟨a, ns, rfl, hS, hl, (List.forall_mem_cons.mpr ⟨LamX.TabS.nil (hT _ (List.mem_cons_self ..)), (fun _ h => nomatch h)⟩), fun _ => rfl⟩, fun base _ _ TBS => ?_⟩
  have LM_put_route : ZL.LamF base mg ((cEnv C0 C1 C2 C3 C4 TT10)).tb (PySem.W.fnOf "put_route" "put_route" (defArgs s_put_route) (defBody s_put_route) (defScope s_put_route) .none kV10 dc10 pm10 an10 (.ref cc10) ct10) "put_route" := ⟨cc10, TT10, rfl, TBS _ (List.mem_cons_self ..), (List.mem_cons_self ..), ZL.hu_of tnd (List.mem_cons_self ..)⟩
  have D_check_key : DfnX l.prog w K mg base 1 "check_key" ["key"] (sp_check_key K (cEnv C0 C1 C2 C3 C4 TT10)) := ⟨_, _, PySem.W.mg_of X G a0, F0.kp, F0.binds (ps := ["key"]) (fun _ _ _ _ _ _ us hl => match us, hl with | [_], _ => rfl), ok_check_key E_InvalidKey g_PRIME F0⟩
  have K_Ledger_init : MkrX l.prog w K mg base 2 ((cEnv C0 C1 C2 C3 C4 TT10).cls "Ledger") ["self", "schema", "key"] (sp_Ledger_init K (cEnv C0 C1 C2 C3 C4 TT10)) := ⟨_, _, ⟨mk1, a1, i1, kc1⟩, F1.binds (ps := ["self", "schema", "key"]) (fun _ _ _ _ _ _ us hl => match us, hl with | [_, _, _], _ => rfl), ok_Ledger_init D_check_key F1⟩
  have K_Catalog_init : MkrX l.prog w K mg base 4 ((cEnv C0 C1 C2 C3 C4 TT10).cls "Catalog") ["self", "schema", "key", "shard"] (sp_Catalog_init K (cEnv C0 C1 C2 C3 C4 TT10)) := ⟨_, _, ⟨mk3, a2, i2, kc3⟩, F2.binds (ps := ["self", "schema", "key", "shard"]) (fun _ _ _ _ _ _ us hl => match us, hl with | [_, _, _, _], _ => rfl), ok_Catalog_init C_Ledger K_Ledger_init F2⟩
  have D_is_letter : Dfn l.prog w K mg base 1 "is_letter" ["sign"] (sp_is_letter K (cEnv C0 C1 C2 C3 C4 TT10)) := ⟨_, _, PySem.W.mg_of X G a3, F3.kp, F3.binds (ps := ["sign"]) (fun _ _ _ _ _ _ us hl => match us, hl with | [_], _ => rfl), ok_is_letter F3⟩
  have D_is_digit : Dfn l.prog w K mg base 1 "is_digit" ["sign"] (sp_is_digit K (cEnv C0 C1 C2 C3 C4 TT10)) := ⟨_, _, PySem.W.mg_of X G a4, F4.kp, F4.binds (ps := ["sign"]) (fun _ _ _ _ _ _ us hl => match us, hl with | [_], _ => rfl), ok_is_digit F4⟩
  have D_is_field_name : Dfn l.prog w K mg base 2 "is_field_name" ["name"] (sp_is_field_name K (cEnv C0 C1 C2 C3 C4 TT10)) := ⟨_, _, PySem.W.mg_of X G a5, F5.kp, F5.binds (ps := ["name"]) (fun _ _ _ _ _ _ us hl => match us, hl with | [_], _ => rfl), ok_is_field_name D_is_letter D_is_digit g_WORDS F5⟩
  have FD6 : FunD K "__init__" "Schema.__init__" (defArgs s_Schema_init) (defBody s_Schema_init) (defScope s_Schema_init) [] [("width", (.str "small")), ("measure", (.str "square")), ("fields", .ref kT6_fields)] f6 _ := ⟨⟨_, _, _, _, _, _, _, _, _, _, rfl, l6, c6, .inl ⟨rfl, rfl⟩, .inr ⟨kD6, rfl, (List.forall_mem_cons.mpr ⟨⟨_, kd6_width, ⟨_, rfl⟩⟩, (List.forall_mem_cons.mpr ⟨⟨_, kd6_measure, ⟨_, rfl⟩⟩, (List.forall_mem_cons.mpr ⟨⟨_, kd6_fields, rfl⟩, (fun _ h => nomatch h)⟩)⟩)⟩)⟩⟩, k6⟩
  have B_K_Schema_init_1 := FunD.kbinds0 (ps := ["self", "size", "width", "measure", "fields"]) FD6 2 [] [("width", (.str "small")), ("measure", (.str "square")), ("fields", .ref kT6_fields)] (gSel [(false, 0), (false, 1), (false, 2)]) (by simp) (by simp) (fun r1 r2 r3 => gSel_rel [(false, 0), (false, 1), (false, 2)] r1 r2 r3) (fun D doc pm an cdv ct us mv ws h1 h2 h3 => match us, h1, mv, h2, ws, h3 with | [_, _], _, [_, _, _], _, [], _ => ⟨_, _, _, _, _, _, rfl, rfl, ⟨_, _, _, _, _, _, rfl, rfl, ⟨_, _, _, _, _, _, rfl, rfl, rfl⟩⟩⟩)
  have K_Schema_init_1 : MkrK (L2.CX l.prog w) l.prog w K mg base 3 ((cEnv C0 C1 C2 C3 C4 TT10).cls "Schema") ["self", "size", "width", "measure", "fields"] (sp_Schema_init K (cEnv C0 C1 C2 C3 C4 TT10)) 1 [] [(.v (.str "small")), (.v (.str "square")), .e] [(false, 0), (false, 1), (false, 2)] := B_K_Schema_init_1.elim fun mv hb => ⟨_, _, _, _, ⟨mk4, a6, i6, kc4⟩, (.cons rfl (.cons rfl (.cons ⟨_, rfl, sqT_lit kx6_fields .nil (by decide)⟩ .nil))), hb, ok_Schema_init E_InvalidSchema D_is_field_name m_tuple g_RANGES g_MEASURES g_KINDS F6⟩
  have D_law_row : Dfn l.prog w K mg base 1 "_law_row" ["_law_script", "_law_k"] (sp_law_row K) := ⟨_, _, PySem.W.mg_of X G a7, F7.kp, F7.binds (ps := ["_law_script", "_law_k"]) (fun _ _ _ _ _ _ us hl => match us, hl with | [_, _], _ => rfl), ok_law_row m_len m_int F7⟩
  have D_law_next : Dfn l.prog w K mg base 2 "_law_next" ["_law_state", "_law_many"] (sp_law_next K) := ⟨_, _, PySem.W.mg_of X G a8, F8.kp, F8.binds (ps := ["_law_state", "_law_many"]) (fun _ _ _ _ _ _ us hl => match us, hl with | [_, _], _ => rfl), ok_law_next D_law_row m_int F8⟩
  have D_law_word : Dfn l.prog w K mg base 3 "_law_word" ["_law_state"] (sp_law_word K (cEnv C0 C1 C2 C3 C4 TT10)) := ⟨_, _, PySem.W.mg_of X G a9, F9.kp, F9.binds (ps := ["_law_state"]) (fun _ _ _ _ _ _ us hl => match us, hl with | [_], _ => rfl), ok_law_word D_law_next m_range F9⟩
  have D_put_route : Dfn l.prog w K mg base 5 "put_route" ["routes", "low", "shard"] (sp_put_route K (cEnv C0 C1 C2 C3 C4 TT10)) := ⟨_, _, PySem.W.mg_of X G a10, F10.kp, F10.binds (ps := ["routes", "low", "shard"]) (fun _ _ _ _ _ _ us hl => match us, hl with | [_, _, _], _ => rfl), ok_put_route m_sorted F10 LM_put_route⟩
  have M_Catalog_change : MthX l.prog w K mg base 6 ((cEnv C0 C1 C2 C3 C4 TT10).cls "Catalog") "change" ["self", "deed"] (sp_Catalog_change K (cEnv C0 C1 C2 C3 C4 TT10)) := ⟨_, _, ⟨a11, i11, k11⟩, F11.binds (ps := ["self", "deed"]) (fun _ _ _ _ _ _ us hl => match us, hl with | [_, _], _ => rfl), ok_Catalog_change D_put_route F11⟩
  have M_Catalog_settle : Mth l.prog w K mg base 1 ((cEnv C0 C1 C2 C3 C4 TT10).cls "Catalog") "settle" ["self"] (sp_Catalog_settle K (cEnv C0 C1 C2 C3 C4 TT10)) := ⟨_, _, ⟨a12, i12, k12⟩, F12.binds (ps := ["self"]) (fun _ _ _ _ _ _ us hl => match us, hl with | [_], _ => rfl), ok_Catalog_settle F12⟩
  have M_Catalog_apply : MthX l.prog w K mg base 7 ((cEnv C0 C1 C2 C3 C4 TT10).cls "Catalog") "apply" ["self", "deed"] (sp_Catalog_apply K (cEnv C0 C1 C2 C3 C4 TT10)) := ⟨_, _, ⟨a13, i13, k13⟩, F13.binds (ps := ["self", "deed"]) (fun _ _ _ _ _ _ us hl => match us, hl with | [_, _], _ => rfl), ok_Catalog_apply C_Catalog M_Catalog_change M_Catalog_settle F13⟩
  have M_Catalog_shard_of : Mth l.prog w K mg base 1 ((cEnv C0 C1 C2 C3 C4 TT10).cls "Catalog") "shard_of" ["self", "name"] (sp_Catalog_shard_of K (cEnv C0 C1 C2 C3 C4 TT10)) := ⟨_, _, ⟨a14, i14, k14⟩, F14.binds (ps := ["self", "name"]) (fun _ _ _ _ _ _ us hl => match us, hl with | [_, _], _ => rfl), ok_Catalog_shard_of F14⟩
  have D_law_due : Dfn l.prog w K mg base 1 "_law_due" ["_law_routes", "_law_name"] (sp_law_due K (cEnv C0 C1 C2 C3 C4 TT10)) := ⟨_, _, PySem.W.mg_of X G a15, F15.kp, F15.binds (ps := ["_law_routes", "_law_name"]) (fun _ _ _ _ _ _ us hl => match us, hl with | [_, _], _ => rfl), ok_law_due F15⟩
  exact ok_law C_Catalog C_Schema K_Catalog_init K_Schema_init_1 D_law_next D_law_word M_Catalog_apply M_Catalog_shard_of D_law_due m_list m_range m_sorted F16
theorem walk {l : PySem.W.OpenLaw} {q : Program} {loose : List Str} {XP : (Str → Option Value) → Heap → Prop} {YP : World → Heap → Prop} {d : DefRec} {K : Params → PySem.W.Frag} (hn : l.most = some 63) (hdf : d.params.defaults = [])
    (hY : ∀ (w : World) (h : Heap), YP w h → (K w.params).In h)
    (F : ∀ (w : World) (mg : Str → Option Value) (fa : Addr) (h : Heap), YP w h → (K w.params).In h → h.Ns mainGlobals mg → mg d.name = some (.ref fa) →
      LamX.LawAtS l w (K w.params) CX0 8 63 "_law_script" mg fa h) :
    PySem.W.WalkO q loose XP YP l.row.toRowW d [] (fun f vs => PySem.call f vs) :=
  LamX.walk_ofTs (n := 63) (k := 8) (x := "_law_script") (CX := fun _ => CX0) hn (by decide) hdf ⟨rfl, by decide, by decide⟩ hY F fun _ _ _ _ _ z => z
end Z
open PySem PySem.W PyProof.Rows
set_option maxRecDepth 100000 in
set_option maxHeartbeats 0 in
theorem PySem.Challenge.cw_surenear_k70_names_belong_to_shards_holds : PySem.Challenge.rw_surenear_k70_names_belong_to_shards.Holds := by
  w_on; o_law
  refine ZH.head_runT ZH.left (d := ZH.lawD) (kwd := []) (by kernel_rfl) (by kernel_rfl) (by kernel_rfl) (by rfl) (by first | assumption | decide +kernel) (by decide +kernel) ⟨rfl, rfl, rfl, rfl, rfl, by decide +kernel⟩ ?hw ?hc
  (case hw => w_witness2)
  k_fill
  refine Z.walk (l := PySem.Challenge.rw_surenear_k70_names_belong_to_shards) rfl rfl (fun w h Y => PySem.W.km_in_of Y) ?F
  case F =>
    intro w mg fa h Y KX G hmg0
    have hmg : mg ("law" : PySem.Str) = some (.ref fa) := by rw [← ZH.lawD_name]; exact hmg0
    refine' Z.all_mk KX G hmg ?b0 ?b1 ?b2 ?b3 ?b4 ?xq0 ?kc0 ?xb0 ?xt0 ?pg1 ?hd1 ?po1 ?sa1 ?ha1 ?hm1 ?mk1 ?kc1 ?n1_0 ?n1_1 ?n1_2 ?n1_3 ?n1_4 ?n1_5 ?n1_6 ?n1_7 ?xq2 ?kc2 ?xb2 ?xt2 ?pg3 ?hd3 ?po3 ?sa3 ?ha3 ?hm3 ?mk3 ?kc3 ?n3_0 ?n3_1 ?n3_2 ?n3_3 ?n3_4 ?pg4 ?hd4 ?po4 ?sa4 ?ha4 ?hm4 ?mk4 ?kc4 ?n4_0 ?n4_1 ?n4_2 ?n4_3 ?hn ?htk ?nd ?a0 ?l0 ?c0 ?k0 ?a1 ?i1 ?l1 ?c1 ?k1 ?a2 ?i2 ?l2 ?c2 ?k2 ?a3 ?l3 ?c3 ?k3 ?a4 ?l4 ?c4 ?k4 ?a5 ?l5 ?c5 ?k5 ?a6 ?i6 ?l6 ?c6 ?k6 ?a7 ?l7 ?c7 ?k7 ?a8 ?l8 ?c8 ?k8 ?a9 ?l9 ?c9 ?k9 ?a10 ?l10 ?c10 ?k10 ?a11 ?i11 ?l11 ?c11 ?k11 ?a12 ?i12 ?l12 ?c12 ?k12 ?a13 ?i13 ?l13 ?c13 ?k13 ?a14 ?i14 ?l14 ?c14 ?k14 ?a15 ?l15 ?c15 ?k15 ?a16 ?l16 ?c16 ?k16 ?kd6_width ?kd6_measure ?kd6_fields ?kx6_fields ?lc10 ?lt10 ?lb10 ?ln10 ?le10 ?tnd ?z0 ?z1 ?z2 ?z3 ?z4 ?z5 ?kg0 ?kg1 ?kl1 ?kg2 ?kl2 ?kk2 ?ko2 ?kw2_0 ?kw2_1 ?kw2_2 ?kg3 ?kl3 ?kg4 ?kl4
    (case b0 => k_is)
    (case b1 => k_is)
    (case b2 => k_is)
    (case b3 => k_is)
    (case b4 => k_is)
    (case xq0 => k_exc)
    (case kc0 => k_is)
    (case xb0 => k_is)
    (case xt0 => k_is)
    (case pg1 => k_is)
    (case hd1 => k_is)
    (case po1 => k_is)
    (case sa1 => k_is)
    (case ha1 => k_is)
    (case hm1 => k_is)
    (case mk1 => k_is)
    (case kc1 => k_is)
    (case n1_0 => k_is)
    (case n1_1 => k_is)
    (case n1_2 => k_is)
    (case n1_3 => k_is)
    (case n1_4 => k_is)
    (case n1_5 => k_is)
    (case n1_6 => k_is)
    (case n1_7 => k_is)
    (case xq2 => k_exc)
    (case kc2 => k_is)
    (case xb2 => k_is)
    (case xt2 => k_is)
    (case pg3 => k_is)
    (case hd3 => k_is)
    (case po3 => k_is)
    (case sa3 => k_is)
    (case ha3 => k_is)
    (case hm3 => k_is)
    (case mk3 => k_is)
    (case kc3 => k_is)
    (case n3_0 => k_is)
    (case n3_1 => k_is)
    (case n3_2 => k_is)
    (case n3_3 => k_is)
    (case n3_4 => k_is)
    (case pg4 => k_is)
    (case hd4 => k_is)
    (case po4 => k_is)
    (case sa4 => k_is)
    (case ha4 => k_is)
    (case hm4 => k_is)
    (case mk4 => k_is)
    (case kc4 => k_is)
    (case n4_0 => k_is)
    (case n4_1 => k_is)
    (case n4_2 => k_is)
    (case n4_3 => k_is)
    (case hn => k_is)
    (case htk => k_is)
    (case nd => decide)
    (case a0 => k_is)
    (case l0 => k_is)
    (case c0 => k_is)
    (case k0 => k_is)
    (case a1 => k_is)
    (case i1 => k_is)
    (case l1 => k_is)
    (case c1 => k_is)
    (case k1 => k_is)
    (case a2 => k_is)
    (case i2 => k_is)
    (case l2 => k_is)
    (case c2 => k_is)
    (case k2 => k_is)
    (case a3 => k_is)
    (case l3 => k_is)
    (case c3 => k_is)
    (case k3 => k_is)
    (case a4 => k_is)
    (case l4 => k_is)
    (case c4 => k_is)
    (case k4 => k_is)
    (case a5 => k_is)
    (case l5 => k_is)
    (case c5 => k_is)
    (case k5 => k_is)
    (case a6 => k_is)
    (case i6 => k_is)
    (case l6 => k_is)
    (case c6 => k_is)
    (case k6 => k_is)
    (case a7 => k_is)
    (case l7 => k_is)
    (case c7 => k_is)
    (case k7 => k_is)
    (case a8 => k_is)
    (case l8 => k_is)
    (case c8 => k_is)
    (case k8 => k_is)
    (case a9 => k_is)
    (case l9 => k_is)
    (case c9 => k_is)
    (case k9 => k_is)
    (case a10 => k_is)
    (case l10 => k_is)
    (case c10 => k_is)
    (case k10 => k_is)
    (case a11 => k_is)
    (case i11 => k_is)
    (case l11 => k_is)
    (case c11 => k_is)
    (case k11 => k_is)
    (case a12 => k_is)
    (case i12 => k_is)
    (case l12 => k_is)
    (case c12 => k_is)
    (case k12 => k_is)
    (case a13 => k_is)
    (case i13 => k_is)
    (case l13 => k_is)
    (case c13 => k_is)
    (case k13 => k_is)
    (case a14 => k_is)
    (case i14 => k_is)
    (case l14 => k_is)
    (case c14 => k_is)
    (case k14 => k_is)
    (case a15 => k_is)
    (case l15 => k_is)
    (case c15 => k_is)
    (case k15 => k_is)
    (case a16 => k_is)
    (case l16 => k_is)
    (case c16 => k_is)
    (case k16 => k_is)
    (case kd6_width => k_is)
    (case kd6_measure => k_is)
    (case kd6_fields => k_is)
    (case kx6_fields => k_is)
    (case lc10 => k_is)
    (case lt10 => rfl)
    (case lb10 => decide +kernel)
    (case ln10 => kernel_rfl)
    (case le10 => exact PySem.W.km_tabs_of Y _ (by decide +kernel))
    (case tnd => decide)
    (case z0 => k_is)
    (case z1 => k_is)
    (case z2 => k_is)
    (case z3 => k_is)
    (case z4 => k_is)
    (case z5 => k_is)
    (case kg0 => k_is)
    (case kg1 => k_is)
    (case kl1 => k_is)
    (case kg2 => k_is)
    (case kl2 => k_is)
    (case kk2 => k_keys)
    (case ko2 => decide)
    (case kw2_0 => k_is)
    (case kw2_1 => k_is)
    (case kw2_2 => k_is)
    (case kg3 => k_is)
    (case kl3 => k_is)
    (case kg4 => k_is)
    (case kl4 => k_is)

