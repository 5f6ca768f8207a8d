import PyProof.Rows.All
import Wide.All
import OpenK.AllK
import Wide.FinOn
import Wide.Once
import HandS.Words
import HandS.Head0
import HandS.Head1
import HandS.Head2
import HandS.ForExc
import HandS.ForMost
import HandS.Wide
import HandS.IsInst
import HandS.TupAny
import HandS.Flow
import HandS.Codes
import HandS.Zip
import HandS.TupLe
import HandS.Property
import HandS.OwnEq
import KE.GoesMore
import HandS.Defaults
import HandS.MakeKwOnly
import HandS.More
import HandS.TryMany
import HandS.RaiseMore
import KE.GoesNew
import HandS.ClsMeth
import HandS.New0
import HandS.Conv
import PySem.Challenge.RW_surenear_k22_outcomes_of_one_fact
set_option Elab.async false
set_option linter.all false
set_option maxRecDepth 100000
set_option maxHeartbeats 4000000
set_option exponentiation.threshold 100000
namespace ZH
open PySem PySem.W PySem.Calls PyProof.Rows
abbrev nd := PySem.W.BT.node
abbrev lf := PySem.W.BT.nil
abbrev zd (P : Params) (s : PySem.Str) (t : Nat) (v : Value) : DictEntry := ⟨PyData.keyHash P s, .str s t, v⟩
abbrev zf (st : Stmt) (name qual : PySem.Str) (g : Nat) (cl : List (PySem.Str × Addr)) (d kd doc pm : Value) (an : Option Addr) (cd ct : Value) (bi : Nat) : FuncData :=
  ⟨name, qual, L2.defArgs st, .stmts (L2.defBody st), L2.defScope st, g, cl, d, kd, doc, pm, an, cd, ct, bi⟩
abbrev looksH := HandSHeadRun.looksF
noncomputable abbrev seenH := HandSHeadRun.seenQ
theorem seg_q {p : Program} {w : World} {n0 n b : Nat} {ann : Option Value} {s : SharedT} {l : List Stmt} {env : Env} {c : Code} {pos : Pos} {B : List Frame} {r : Option (Flow × SharedT × Code × Pos)}
    (h : PySem.W.Fast.tw10110043849684766642 PySem.W.Fast.tw14364793385576792824 p w n0 ann b n s ⟨(PySem.W.Fast.tw12563942051412417395 l env).wrap doneF deadEnd id id, c, pos, B⟩ = r) :
    segRunT treeTable p w n0 ann b n s (piecesOf l env c pos B) = r := by
  have e1 : @segRunT = PySem.W.Fast.tw10110043849684766642 := PySem.W.Fast.te10110043849684766642
  have e2 : @treeTable = PySem.W.Fast.tw14364793385576792824 := PySem.W.Fast.te14364793385576792824
  have e3 : @execs = PySem.W.Fast.tw12563942051412417395 := PySem.W.Fast.te12563942051412417395
  rw [← h, ← e1, ← e2, ← e3]
theorem looks_run {p q : Program} {w : World} {os : OsState} {loose : List PySem.Str} {Xt : Shared → Bool} {K : Params → PySem.W.Frag} {as : List Addr} {ek : ∀ P, as = (K P).map (·.1)} {M n0 : Nat} {ann : Option Value} {s : SharedT}
    (r : topRun treeTable p w n0 ann M ⟨boot_heap w.params, #[], boot_drawn, boot_toks, os⟩ (topStub p) = some s.abs)
    (h : (looksH p (boot_heap w.params) s.abs, seenH q loose (importedModules p.main.body) Xt s.abs, as.map (HandSHeadRun.getT s)) = (true, openGood q loose, (K w.params).map fun x => some x.2)) :
    ∃ s : Shared, topRun treeTable p w n0 ann M ⟨boot_heap w.params, #[], boot_drawn, boot_toks, os⟩ (topStub p) = some s ∧ looksH p (boot_heap w.params) s = true ∧
      openSeen q loose (importedModules p.main.body) Xt true s = openGood q loose ∧ (kHook K as ek).obs s = (kHook K as ek).val w := by
  obtain ⟨h1, h2⟩ := Prod.mk.inj h
  obtain ⟨h2, h3⟩ := Prod.mk.inj h2
  refine ⟨_, r, h1, (HandSHeadRun.seenQ_eq ..).trans h2, ?_⟩
  refine Eq.trans ?_ h3
  exact List.map_congr_left fun a _ => (HandSHeadRun.getT_eq s a).symm
theorem left_run {p q : Program} {loose : List PySem.Str} {Xt : Shared → Bool} {α : Type} {Yf : Shared → α} {Ya : World → α} {N M n0 : Nat} {ann : Option Value}
    (e : opening p = plainProg p.main.scope.names) (hN : Nat.ble 600 N = true) (f : ∀ s, fenceModules? p s = some s) (le : Nat.ble M N = true)
    (hn : ∀ w : World, (boot_heap w.params).objs.size = n0) (ha : ∀ w : World, (boot_heap w.params).nsMap mainGlobals "__annotations__" = ann)
    (run : ∀ (w : World) (os : OsState), ∃ s : Shared, topRun treeTable p w n0 ann M ⟨boot_heap w.params, #[], boot_drawn, boot_toks, os⟩ (topStub p) = some s ∧ looksH p (boot_heap w.params) s = true ∧
      openSeen q loose (importedModules p.main.body) Xt true s = openGood q loose ∧ Yf s = Ya w) :
    LeftO p q loose Xt Yf Ya N true := by
  intro w
  obtain ⟨⟨hp, gs, dr, tk, os⟩, bo, eq⟩ := Option.map_eq_some_iff.mp (boot_open e hN f w)
  simp only [Prod.mk.injEq] at eq
  obtain ⟨rfl, rfl, rfl, rfl⟩ := eq
  obtain ⟨s, hr, l1, l2, l3⟩ := run w os
  have up := topRun_mono (N - M) _ _ _ _ hr
  have eN : M + (N - M) = N := by have := Nat.le_of_ble_eq_true le; omega
  rw [eN, ← hn w, ← ha w] at up
  have tf : topFrom treeTable p w N ⟨boot_heap w.params, #[], boot_drawn, boot_toks, os⟩ = some s := by
    unfold topFrom
    have b1 : ((boot_heap w.params).isNs mainGlobals && (#[] : Array GenState).size == 0) = true := by rw [HandSHeadRun.boot_ns]; rfl
    simp only [b1, up, Option.bind_some]
    have l1' := l1
    unfold looksH HandSHeadRun.looksF at l1'
    rw [l1']
  have oe : openEnds treeTable p w N = some s := by
    unfold openEnds
    rw [bo]
    exact tf
  show (openEnds treeTable p w N).map _ = _
  rw [oe]
  exact congrArg some (Prod.ext l2 l3)
theorem head_run {r : OpenRow} {q : Program} {K : Params → PySem.W.Frag} {as : List Addr} {ek : ∀ P, as = (K P).map (·.1)} {N : Nat} {loose : List PySem.Str} {d : DefRec} {kwd : List (PySem.Str × PySem.Expr)}
    (left : LeftO r.prog q loose (fun s => xlAt q [] s && recOk r.toRowW.records s) (kHook K as ek).obs (kHook K as ek).val N true)
    (hdef : defOf q r.name = some (d, kwd)) (hp : r.prog.theDef r.name = some (d.params, d.body, d.scope)) (hk : kwWritten? d.params.kwonlyargs d.params.kw_defaults = some kwd)
    (hwr : (!r.writes || r.records.isEmpty) = true) (k1 : r.wellSaid = true) (ok : (chainsOk q && opensWell r.prog && (frees r.toRowW && r.within.isEmpty)) = true) (hb : r.prog.bare) (hw : r.toRowW.promised)
    (call : WalkO q loose (XL q []) (kHook K as ek).says r.toRowW d kwd fun f vs => PySem.call f vs) : r.Holds :=
  holds_open left (kHook K as ek).of (kHook K as ek).keeps (fun s z => xl_of s ((Bool.and_eq_true_iff.mp z).1)) XL.keeps hdef hp hk
    (fun s z => recFacts_of ((Bool.and_eq_true_iff.mp z).2)) hwr k1 ok hb hw call
end ZH
noncomputable section
namespace ZH
open PySem PySem.W PySem.Calls PyProof.Rows
abbrev RR : OpenRow := OpenLaw.row PySem.Challenge.rw_surenear_k22_outcomes_of_one_fact
abbrev pr : Program := RR.prog
def tS (i : Nat) : Stmt := pr.main.body.getD i (.Pass ⟨0, 0, 0, 0⟩)
def mS (i j : Nat) : Stmt := L2.inClass (tS i) j
def o11_0 (P : Params) : Obj := ⟨(.type "tuple"), none, (.seq #[] 0), #[]⟩
def o12_0 (P : Params) : Obj := ⟨.none, none, (.fields #[]), #[]⟩
def o13_0 (P : Params) : Obj := ⟨(.type "code"), none, (.fields #[(.str "<module>" 182), (.str "<module>" 183), (.str "/claim/cut.py" 184), (.int 1 0), (.int 0 0), (.int 0 0), (.int 0 0), (.int 0 0), (.ref 11), (.bool false), (.int 181 0), (.ref 12), .none, .none, .none, .none, (.int 185 0), (.int 1 0), (.str "/claim/cut.py" 186)]), #[]⟩
def o14_0 (P : Params) : Obj := ⟨(.type "frame"), none, .plain, #[(some (.ref 13)), (some (.ref 3)), (some (.ref 3)), none, (some (.str "__main__" 164)), none, (some (.ref 0))]⟩
def tA (P : Params) : BT := (nd (PySem.W.boot_o_0 P) (nd (PySem.W.boot_o_1 P) (nd (PySem.W.boot_o_3 P) (nd (PySem.W.boot_o_7 P) lf lf) (nd (o11_0 P) lf lf)) (nd (PySem.W.boot_o_5 P) (nd (PySem.W.boot_o_9 P) lf lf) (nd (o13_0 P) lf lf))) (nd (PySem.W.boot_o_2 P) (nd (PySem.W.boot_o_4 P) (nd (PySem.W.boot_o_8 P) lf lf) (nd (o12_0 P) lf lf)) (nd (PySem.W.boot_o_6 P) (nd (PySem.W.boot_o_10 P) lf lf) (nd (o14_0 P) lf lf))))
def sA (w : World) (os : OsState) : SharedT := ⟨tA w.params, 15, { }, #[], ⟨0, 0, 0, 0⟩, 187, os⟩
def annV : Option Value := (some (.ref 6))
abbrev bE : List Stmt := behindTheImports pr
def env : Env := { scope := pr.main.scope, locals := mainNs, globals := mainNs, cells := [], code := (.ref 13), frame := some 14 }
abbrev cE : Code := .body bE env
abbrev fB : List Frame := [topFrame ⟨0, 0, 0, 0⟩]
theorem pre (w : World) (os : OsState) : topGo treeTable pr w 11 annV 12 ⟨boot_heap w.params, #[], boot_drawn, boot_toks, os⟩ (topStub pr) = some ((sA w os).abs, ⟨denote treeTable cE, cE, ⟨0, 0, 0, 0⟩, fB⟩) := by kernel_rfl
theorem blk (w : World) (os : OsState) : segRun treeTable pr w 11 annV 1 1 (sA w os).abs (blockOf bE env cE ⟨0, 0, 0, 0⟩ fB) = some (.next, (sA w os).abs, cE, ⟨0, 0, 0, 0⟩) := by kernel_rfl
def o3_0 (P : Params) : Obj := ⟨(.type "dict"), none, (.dict (List.toArray (zd P "__name__" 165 (.str "surenear.filters.conditions" 281) :: zd P "__doc__" 166 .none :: zd P "__package__" 167 .none :: zd P "__loader__" 168 (.builtin "__main__.__loader__#opaque") :: zd P "__spec__" 169 .none :: zd P "__annotations__" 170 (.ref 6) :: zd P "__builtins__" 171 (.ref 4) :: zd P "__file__" 173 (.str "/claim/cut.py" 172) :: zd P "__cached__" 174 .none :: zd P "_wall" 193 (.ref 21) :: zd P "Fact" 270 (.ref 80) :: zd P "same_value" 280 (.ref 91) :: zd P "compare" 291 (.ref 98) :: zd P "written_value" 298 (.ref 105) :: zd P "same_values" 308 (.ref 112) :: zd P "Condition" 375 (.ref 164) :: zd P "Every" 399 (.ref 185) :: zd P "Has" 432 (.ref 211) :: zd P "Compare" 469 (.ref 237) :: zd P "OneOf" 504 (.ref 263) :: zd P "Both" 539 (.ref 289) :: [])) 21), #[]⟩
def o12_1 (P : Params) : Obj := ⟨.none, none, (.fields (List.toArray ((.int 1 0) :: (.int 0 0) :: (.ref 20) :: (.int 5 0) :: (.int 0 0) :: (.ref 27) :: (.int 28 0) :: (.int 0 0) :: (.ref 90) :: (.int 31 0) :: (.int 0 0) :: (.ref 97) :: (.int 43 0) :: (.int 0 0) :: (.ref 104) :: (.int 49 0) :: (.int 0 0) :: (.ref 111) :: (.int 56 0) :: (.int 0 0) :: (.ref 118) :: (.int 75 0) :: (.int 0 0) :: (.ref 174) :: (.int 79 0) :: (.int 0 0) :: (.ref 193) :: (.int 86 0) :: (.int 0 0) :: (.ref 219) :: (.int 95 0) :: (.int 0 0) :: (.ref 245) :: (.int 103 0) :: (.int 0 0) :: (.ref 271) :: []))), #[]⟩
def o15_0 (P : Params) : Obj := ⟨(.type "tuple"), none, (.seq #[] 0), #[]⟩
def o16_0 (P : Params) : Obj := ⟨.none, none, (.fields #[]), #[]⟩
def o17_0 (P : Params) : Obj := ⟨(.type "tuple"), none, (.seq #[(.str "k" 190)] 0), #[]⟩
def o18_0 (P : Params) : Obj := ⟨(.type "tuple"), none, (.seq #[] 0), #[]⟩
def o19_0 (P : Params) : Obj := ⟨.none, none, (.func (zf (tS 0) "_wall" "_wall" 0 [] .none .none .none .none none .none .none 0)), #[]⟩
def o20_0 (P : Params) : Obj := ⟨(.type "code"), none, (.fields #[(.str "_wall" 187), (.str "_wall" 188), (.str "/claim/cut.py" 189), (.int 1 0), (.int 1 0), (.int 0 0), (.int 0 0), (.int 3 0), (.ref 15), (.bool true), (.int 181 0), (.ref 16), .none, (.ref 17), (.ref 18), (.ref 19), (.int 191 0), (.int 1 0), (.str "/claim/cut.py" 192)]), #[]⟩
def o21_0 (P : Params) : Obj := ⟨(.type "function"), none, (.func (zf (tS 0) "_wall" "_wall" 3 [] .none .none .none (.str "__main__" 164) none (.ref 20) .none 0)), #[]⟩
def o22_0 (P : Params) : Obj := ⟨(.type "tuple"), none, (.seq #[] 0), #[]⟩
def o23_0 (P : Params) : Obj := ⟨(.type "builtin_function_or_method"), none, (.fields #[(.builtin "type.__prepare__"), (.type "type")]), #[]⟩
def o24_0 (P : Params) : Obj := ⟨(.type "dict"), none, (.dict #[zd P "__module__" 203 (.str "surenear.facts.fact" 194), zd P "__qualname__" 205 (.str "Fact" 204), zd P "__firstlineno__" 207 (.int 5 206), zd P "holds" 215 (.ref 35), zd P "least_distance" 223 (.ref 42), zd P "least_differing" 231 (.ref 49), zd P "most_product" 239 (.ref 56), zd P "count_bound" 247 (.ref 63), zd P "name_bound" 254 (.ref 70), zd P "outcomes" 262 (.ref 77), zd P "__static_attributes__" 263 (.ref 78)] 11), #[]⟩
def o25_0 (P : Params) : Obj := ⟨(.type "tuple"), none, (.seq #[] 0), #[]⟩
def o26_0 (P : Params) : Obj := ⟨.none, none, (.fields (List.toArray ((.int 7 0) :: (.int 4 0) :: (.ref 34) :: (.int 10 0) :: (.int 4 0) :: (.ref 41) :: (.int 13 0) :: (.int 4 0) :: (.ref 48) :: (.int 16 0) :: (.int 4 0) :: (.ref 55) :: (.int 19 0) :: (.int 4 0) :: (.ref 62) :: (.int 22 0) :: (.int 4 0) :: (.ref 69) :: (.int 25 0) :: (.int 4 0) :: (.ref 76) :: []))), #[]⟩
def o27_0 (P : Params) : Obj := ⟨(.type "code"), none, (.fields #[(.str "Fact" 198), (.str "Fact" 199), (.str "/claim/cut.py" 200), (.int 5 0), (.int 0 0), (.int 0 0), (.int 0 0), (.int 0 0), (.ref 25), (.bool false), (.int 181 0), (.ref 26), .none, .none, .none, .none, (.int 201 0), (.int 5 0), (.str "/claim/cut.py" 202)]), #[]⟩
def o28_0 (P : Params) : Obj := ⟨(.type "frame"), none, .plain, #[(some (.ref 27)), (some (.ref 3)), (some (.ref 24)), none, (some (.str "surenear.facts.fact" 194)), none, (some (.ref 0))]⟩
def o29_0 (P : Params) : Obj := ⟨(.type "tuple"), none, (.seq #[] 0), #[]⟩
def o30_0 (P : Params) : Obj := ⟨.none, none, (.fields #[]), #[]⟩
def o31_0 (P : Params) : Obj := ⟨(.type "tuple"), none, (.seq #[(.str "self" 211), (.str "record" 212)] 0), #[]⟩
def o32_0 (P : Params) : Obj := ⟨(.type "tuple"), none, (.seq #[] 0), #[]⟩
def o33_0 (P : Params) : Obj := ⟨.none, none, (.func (zf (mS 2 0) "holds" "Fact.holds" 0 [] .none .none .none .none none .none .none 0)), #[]⟩
def o34_0 (P : Params) : Obj := ⟨(.type "code"), none, (.fields #[(.str "holds" 208), (.str "Fact.holds" 209), (.str "/claim/cut.py" 210), (.int 7 0), (.int 2 0), (.int 0 0), (.int 0 0), (.int 3 0), (.ref 29), (.bool true), (.int 181 0), (.ref 30), .none, (.ref 31), (.ref 32), (.ref 33), (.int 213 0), (.int 7 0), (.str "/claim/cut.py" 214)]), #[]⟩
def o35_0 (P : Params) : Obj := ⟨(.type "function"), none, (.func (zf (mS 2 0) "holds" "Fact.holds" 3 [] .none .none .none (.str "surenear.facts.fact" 194) none (.ref 34) .none 0)), #[]⟩
def o36_0 (P : Params) : Obj := ⟨(.type "tuple"), none, (.seq #[] 0), #[]⟩
def o37_0 (P : Params) : Obj := ⟨.none, none, (.fields #[]), #[]⟩
def o38_0 (P : Params) : Obj := ⟨(.type "tuple"), none, (.seq #[(.str "self" 219), (.str "q" 220)] 0), #[]⟩
def o39_0 (P : Params) : Obj := ⟨(.type "tuple"), none, (.seq #[] 0), #[]⟩
def o40_0 (P : Params) : Obj := ⟨.none, none, (.func (zf (mS 2 1) "least_distance" "Fact.least_distance" 0 [] .none .none .none .none none .none .none 0)), #[]⟩
def o41_0 (P : Params) : Obj := ⟨(.type "code"), none, (.fields #[(.str "least_distance" 216), (.str "Fact.least_distance" 217), (.str "/claim/cut.py" 218), (.int 10 0), (.int 2 0), (.int 0 0), (.int 0 0), (.int 3 0), (.ref 36), (.bool true), (.int 181 0), (.ref 37), .none, (.ref 38), (.ref 39), (.ref 40), (.int 221 0), (.int 10 0), (.str "/claim/cut.py" 222)]), #[]⟩
def o42_0 (P : Params) : Obj := ⟨(.type "function"), none, (.func (zf (mS 2 1) "least_distance" "Fact.least_distance" 3 [] .none .none .none (.str "surenear.facts.fact" 194) none (.ref 41) .none 0)), #[]⟩
def o43_0 (P : Params) : Obj := ⟨(.type "tuple"), none, (.seq #[] 0), #[]⟩
def o44_0 (P : Params) : Obj := ⟨.none, none, (.fields #[]), #[]⟩
def o45_0 (P : Params) : Obj := ⟨(.type "tuple"), none, (.seq #[(.str "self" 227), (.str "q" 228)] 0), #[]⟩
def o46_0 (P : Params) : Obj := ⟨(.type "tuple"), none, (.seq #[] 0), #[]⟩
def o47_0 (P : Params) : Obj := ⟨.none, none, (.func (zf (mS 2 2) "least_differing" "Fact.least_differing" 0 [] .none .none .none .none none .none .none 0)), #[]⟩
def o48_0 (P : Params) : Obj := ⟨(.type "code"), none, (.fields #[(.str "least_differing" 224), (.str "Fact.least_differing" 225), (.str "/claim/cut.py" 226), (.int 13 0), (.int 2 0), (.int 0 0), (.int 0 0), (.int 3 0), (.ref 43), (.bool true), (.int 181 0), (.ref 44), .none, (.ref 45), (.ref 46), (.ref 47), (.int 229 0), (.int 13 0), (.str "/claim/cut.py" 230)]), #[]⟩
def o49_0 (P : Params) : Obj := ⟨(.type "function"), none, (.func (zf (mS 2 2) "least_differing" "Fact.least_differing" 3 [] .none .none .none (.str "surenear.facts.fact" 194) none (.ref 48) .none 0)), #[]⟩
def o50_0 (P : Params) : Obj := ⟨(.type "tuple"), none, (.seq #[] 0), #[]⟩
def o51_0 (P : Params) : Obj := ⟨.none, none, (.fields #[]), #[]⟩
def o52_0 (P : Params) : Obj := ⟨(.type "tuple"), none, (.seq #[(.str "self" 235), (.str "q" 236)] 0), #[]⟩
def o53_0 (P : Params) : Obj := ⟨(.type "tuple"), none, (.seq #[] 0), #[]⟩
def o54_0 (P : Params) : Obj := ⟨.none, none, (.func (zf (mS 2 3) "most_product" "Fact.most_product" 0 [] .none .none .none .none none .none .none 0)), #[]⟩
def o55_0 (P : Params) : Obj := ⟨(.type "code"), none, (.fields #[(.str "most_product" 232), (.str "Fact.most_product" 233), (.str "/claim/cut.py" 234), (.int 16 0), (.int 2 0), (.int 0 0), (.int 0 0), (.int 3 0), (.ref 50), (.bool true), (.int 181 0), (.ref 51), .none, (.ref 52), (.ref 53), (.ref 54), (.int 237 0), (.int 16 0), (.str "/claim/cut.py" 238)]), #[]⟩
def o56_0 (P : Params) : Obj := ⟨(.type "function"), none, (.func (zf (mS 2 3) "most_product" "Fact.most_product" 3 [] .none .none .none (.str "surenear.facts.fact" 194) none (.ref 55) .none 0)), #[]⟩
def o57_0 (P : Params) : Obj := ⟨(.type "tuple"), none, (.seq #[] 0), #[]⟩
def o58_0 (P : Params) : Obj := ⟨.none, none, (.fields #[]), #[]⟩
def o59_0 (P : Params) : Obj := ⟨(.type "tuple"), none, (.seq #[(.str "self" 243), (.str "word" 244)] 0), #[]⟩
def o60_0 (P : Params) : Obj := ⟨(.type "tuple"), none, (.seq #[] 0), #[]⟩
def o61_0 (P : Params) : Obj := ⟨.none, none, (.func (zf (mS 2 4) "count_bound" "Fact.count_bound" 0 [] .none .none .none .none none .none .none 0)), #[]⟩
def o62_0 (P : Params) : Obj := ⟨(.type "code"), none, (.fields #[(.str "count_bound" 240), (.str "Fact.count_bound" 241), (.str "/claim/cut.py" 242), (.int 19 0), (.int 2 0), (.int 0 0), (.int 0 0), (.int 3 0), (.ref 57), (.bool true), (.int 181 0), (.ref 58), .none, (.ref 59), (.ref 60), (.ref 61), (.int 245 0), (.int 19 0), (.str "/claim/cut.py" 246)]), #[]⟩
def o63_0 (P : Params) : Obj := ⟨(.type "function"), none, (.func (zf (mS 2 4) "count_bound" "Fact.count_bound" 3 [] .none .none .none (.str "surenear.facts.fact" 194) none (.ref 62) .none 0)), #[]⟩
def o64_0 (P : Params) : Obj := ⟨(.type "tuple"), none, (.seq #[] 0), #[]⟩
def o65_0 (P : Params) : Obj := ⟨.none, none, (.fields #[]), #[]⟩
def o66_0 (P : Params) : Obj := ⟨(.type "tuple"), none, (.seq #[(.str "self" 251)] 0), #[]⟩
def o67_0 (P : Params) : Obj := ⟨(.type "tuple"), none, (.seq #[] 0), #[]⟩
def o68_0 (P : Params) : Obj := ⟨.none, none, (.func (zf (mS 2 5) "name_bound" "Fact.name_bound" 0 [] .none .none .none .none none .none .none 0)), #[]⟩
def o69_0 (P : Params) : Obj := ⟨(.type "code"), none, (.fields #[(.str "name_bound" 248), (.str "Fact.name_bound" 249), (.str "/claim/cut.py" 250), (.int 22 0), (.int 1 0), (.int 0 0), (.int 0 0), (.int 3 0), (.ref 64), (.bool true), (.int 181 0), (.ref 65), .none, (.ref 66), (.ref 67), (.ref 68), (.int 252 0), (.int 22 0), (.str "/claim/cut.py" 253)]), #[]⟩
def o70_0 (P : Params) : Obj := ⟨(.type "function"), none, (.func (zf (mS 2 5) "name_bound" "Fact.name_bound" 3 [] .none .none .none (.str "surenear.facts.fact" 194) none (.ref 69) .none 0)), #[]⟩
def o71_0 (P : Params) : Obj := ⟨(.type "tuple"), none, (.seq #[] 0), #[]⟩
def o72_0 (P : Params) : Obj := ⟨.none, none, (.fields #[]), #[]⟩
def o73_0 (P : Params) : Obj := ⟨(.type "tuple"), none, (.seq #[(.str "self" 258), (.str "condition" 259)] 0), #[]⟩
def o74_0 (P : Params) : Obj := ⟨(.type "tuple"), none, (.seq #[] 0), #[]⟩
def o75_0 (P : Params) : Obj := ⟨.none, none, (.func (zf (mS 2 6) "outcomes" "Fact.outcomes" 0 [] .none .none .none .none none .none .none 0)), #[]⟩
def o76_0 (P : Params) : Obj := ⟨(.type "code"), none, (.fields #[(.str "outcomes" 255), (.str "Fact.outcomes" 256), (.str "/claim/cut.py" 257), (.int 25 0), (.int 2 0), (.int 0 0), (.int 0 0), (.int 3 0), (.ref 71), (.bool true), (.int 181 0), (.ref 72), .none, (.ref 73), (.ref 74), (.ref 75), (.int 260 0), (.int 25 0), (.str "/claim/cut.py" 261)]), #[]⟩
def o77_0 (P : Params) : Obj := ⟨(.type "function"), none, (.func (zf (mS 2 6) "outcomes" "Fact.outcomes" 3 [] .none .none .none (.str "surenear.facts.fact" 194) none (.ref 76) .none 0)), #[]⟩
def o78_0 (P : Params) : Obj := ⟨(.type "tuple"), none, (.seq #[] 0), #[]⟩
def o79_0 (P : Params) : Obj := ⟨(.type "dict"), none, (.dict #[zd P "__module__" 203 (.str "surenear.facts.fact" 194), zd P "__firstlineno__" 207 (.int 5 206), zd P "holds" 215 (.ref 35), zd P "least_distance" 223 (.ref 42), zd P "least_differing" 231 (.ref 49), zd P "most_product" 239 (.ref 56), zd P "count_bound" 247 (.ref 63), zd P "name_bound" 254 (.ref 70), zd P "outcomes" 262 (.ref 77), zd P "__static_attributes__" 263 (.ref 78), zd P "__dict__" 265 (.ref 81), zd P "__weakref__" 267 (.ref 82), zd P "__doc__" 268 .none] 4), #[]⟩
def o80_0 (P : Params) : Obj := ⟨(.type "type"), none, (.cls ⟨"Fact", [(.type "object")], [(.ref 80), (.type "object")], 79, "Fact", true, [], [], false, none, false⟩), #[none, none, (some (.str "Fact" 196)), (some (.str "Fact" 204)), (some (.builtin "object.__new__")), (some (.bool true))]⟩
def o81_0 (P : Params) : Obj := ⟨(.type "getset_descriptor"), none, (.fields #[(.str "__dict__" 264), (.ref 80), (.builtin "function.__dict__"), (.builtin "function.__dict__#set")]), #[]⟩
def o82_0 (P : Params) : Obj := ⟨(.type "getset_descriptor"), none, (.fields #[(.str "__weakref__" 266), (.ref 80), (.builtin "ExceptionGroup.__weakref__"), .none]), #[]⟩
def o83_0 (P : Params) : Obj := ⟨(.type "super"), none, (.fields #[(.ref 80), (.ref 80), (.ref 80)]), #[]⟩
def o84_0 (P : Params) : Obj := ⟨(.type "builtin_function_or_method"), none, (.fields #[(.builtin "object.__init_subclass__"), (.ref 80)]), #[]⟩
def o85_0 (P : Params) : Obj := ⟨(.type "tuple"), none, (.seq #[] 0), #[]⟩
def o86_0 (P : Params) : Obj := ⟨.none, none, (.fields #[]), #[]⟩
def o87_0 (P : Params) : Obj := ⟨(.type "tuple"), none, (.seq #[(.str "a" 276), (.str "b" 277)] 0), #[]⟩
def o88_0 (P : Params) : Obj := ⟨(.type "tuple"), none, (.seq #[] 0), #[]⟩
def o89_0 (P : Params) : Obj := ⟨.none, none, (.func (zf (tS 4) "same_value" "same_value" 0 [] .none .none .none .none none .none .none 0)), #[]⟩
def o90_0 (P : Params) : Obj := ⟨(.type "code"), none, (.fields #[(.str "same_value" 273), (.str "same_value" 274), (.str "/claim/cut.py" 275), (.int 28 0), (.int 2 0), (.int 0 0), (.int 0 0), (.int 3 0), (.ref 85), (.bool true), (.int 181 0), (.ref 86), .none, (.ref 87), (.ref 88), (.ref 89), (.int 278 0), (.int 28 0), (.str "/claim/cut.py" 279)]), #[]⟩
def o91_0 (P : Params) : Obj := ⟨(.type "function"), none, (.func (zf (tS 4) "same_value" "same_value" 3 [] .none .none .none (.str "surenear.records.record" 271) none (.ref 90) .none 0)), #[]⟩
def o92_0 (P : Params) : Obj := ⟨(.type "tuple"), none, (.seq #[] 0), #[]⟩
def o93_0 (P : Params) : Obj := ⟨.none, none, (.fields #[]), #[]⟩
def o94_0 (P : Params) : Obj := ⟨(.type "tuple"), none, (.seq #[(.str "sign" 286), (.str "a" 287), (.str "b" 288)] 0), #[]⟩
def o95_0 (P : Params) : Obj := ⟨(.type "tuple"), none, (.seq #[] 0), #[]⟩
def o96_0 (P : Params) : Obj := ⟨.none, none, (.func (zf (tS 6) "compare" "compare" 0 [] .none .none .none .none none .none .none 0)), #[]⟩
def o97_0 (P : Params) : Obj := ⟨(.type "code"), none, (.fields #[(.str "compare" 283), (.str "compare" 284), (.str "/claim/cut.py" 285), (.int 31 0), (.int 3 0), (.int 0 0), (.int 0 0), (.int 3 0), (.ref 92), (.bool true), (.int 181 0), (.ref 93), .none, (.ref 94), (.ref 95), (.ref 96), (.int 289 0), (.int 31 0), (.str "/claim/cut.py" 290)]), #[]⟩
def o98_0 (P : Params) : Obj := ⟨(.type "function"), none, (.func (zf (tS 6) "compare" "compare" 3 [] .none .none .none (.str "surenear.filters.conditions" 281) none (.ref 97) .none 0)), #[]⟩
def o99_0 (P : Params) : Obj := ⟨(.type "tuple"), none, (.seq #[] 0), #[]⟩
def o100_0 (P : Params) : Obj := ⟨.none, none, (.fields #[]), #[]⟩
def o101_0 (P : Params) : Obj := ⟨(.type "tuple"), none, (.seq #[(.str "worth" 295)] 0), #[]⟩
def o102_0 (P : Params) : Obj := ⟨(.type "tuple"), none, (.seq #[] 0), #[]⟩
def o103_0 (P : Params) : Obj := ⟨.none, none, (.func (zf (tS 7) "written_value" "written_value" 0 [] .none .none .none .none none .none .none 0)), #[]⟩
def o104_0 (P : Params) : Obj := ⟨(.type "code"), none, (.fields #[(.str "written_value" 292), (.str "written_value" 293), (.str "/claim/cut.py" 294), (.int 43 0), (.int 1 0), (.int 0 0), (.int 0 0), (.int 3 0), (.ref 99), (.bool true), (.int 181 0), (.ref 100), .none, (.ref 101), (.ref 102), (.ref 103), (.int 296 0), (.int 43 0), (.str "/claim/cut.py" 297)]), #[]⟩
def o105_0 (P : Params) : Obj := ⟨(.type "function"), none, (.func (zf (tS 7) "written_value" "written_value" 3 [] .none .none .none (.str "surenear.filters.conditions" 281) none (.ref 104) .none 0)), #[]⟩
def o106_0 (P : Params) : Obj := ⟨(.type "tuple"), none, (.seq #[] 0), #[]⟩
def o107_0 (P : Params) : Obj := ⟨.none, none, (.fields #[]), #[]⟩
def o108_0 (P : Params) : Obj := ⟨(.type "tuple"), none, (.seq #[(.str "a" 302), (.str "b" 303), (.str "one" 304), (.str "two" 305)] 0), #[]⟩
def o109_0 (P : Params) : Obj := ⟨(.type "tuple"), none, (.seq #[] 0), #[]⟩
def o110_0 (P : Params) : Obj := ⟨.none, none, (.func (zf (tS 8) "same_values" "same_values" 0 [] .none .none .none .none none .none .none 0)), #[]⟩
def o111_0 (P : Params) : Obj := ⟨(.type "code"), none, (.fields #[(.str "same_values" 299), (.str "same_values" 300), (.str "/claim/cut.py" 301), (.int 49 0), (.int 2 0), (.int 0 0), (.int 0 0), (.int 3 0), (.ref 106), (.bool true), (.int 181 0), (.ref 107), .none, (.ref 108), (.ref 109), (.ref 110), (.int 306 0), (.int 49 0), (.str "/claim/cut.py" 307)]), #[]⟩
def o112_0 (P : Params) : Obj := ⟨(.type "function"), none, (.func (zf (tS 8) "same_values" "same_values" 3 [] .none .none .none (.str "surenear.filters.conditions" 281) none (.ref 111) .none 0)), #[]⟩
def o113_0 (P : Params) : Obj := ⟨(.type "tuple"), none, (.seq #[] 0), #[]⟩
def o114_0 (P : Params) : Obj := ⟨(.type "builtin_function_or_method"), none, (.fields #[(.builtin "type.__prepare__"), (.type "type")]), #[]⟩
def o115_0 (P : Params) : Obj := ⟨(.type "dict"), none, (.dict #[zd P "__module__" 316 (.str "surenear.filters.conditions" 281), zd P "__qualname__" 318 (.str "Condition" 317), zd P "__firstlineno__" 320 (.int 56 319), zd P "passes" 328 (.ref 126), zd P "__and__" 336 (.ref 133), zd P "__or__" 344 (.ref 140), zd P "__invert__" 351 (.ref 147), zd P "__str__" 358 (.ref 154), zd P "__eq__" 366 (.ref 161), zd P "__static_attributes__" 367 (.ref 162)] 10), #[]⟩
def o116_0 (P : Params) : Obj := ⟨(.type "tuple"), none, (.seq #[] 0), #[]⟩
def o117_0 (P : Params) : Obj := ⟨.none, none, (.fields #[(.int 58 0), (.int 4 0), (.ref 125), (.int 61 0), (.int 4 0), (.ref 132), (.int 64 0), (.int 4 0), (.ref 139), (.int 67 0), (.int 4 0), (.ref 146), (.int 70 0), (.int 4 0), (.ref 153), (.int 73 0), (.int 4 0), (.ref 160)]), #[]⟩
def o118_0 (P : Params) : Obj := ⟨(.type "code"), none, (.fields #[(.str "Condition" 311), (.str "Condition" 312), (.str "/claim/cut.py" 313), (.int 56 0), (.int 0 0), (.int 0 0), (.int 0 0), (.int 0 0), (.ref 116), (.bool false), (.int 181 0), (.ref 117), .none, .none, .none, .none, (.int 314 0), (.int 56 0), (.str "/claim/cut.py" 315)]), #[]⟩
def o119_0 (P : Params) : Obj := ⟨(.type "frame"), none, .plain, #[(some (.ref 118)), (some (.ref 3)), (some (.ref 115)), none, (some (.str "surenear.filters.conditions" 281)), none, (some (.ref 0))]⟩
def o120_0 (P : Params) : Obj := ⟨(.type "tuple"), none, (.seq #[] 0), #[]⟩
def o121_0 (P : Params) : Obj := ⟨.none, none, (.fields #[]), #[]⟩
def o122_0 (P : Params) : Obj := ⟨(.type "tuple"), none, (.seq #[(.str "self" 324), (.str "record" 325)] 0), #[]⟩
def o123_0 (P : Params) : Obj := ⟨(.type "tuple"), none, (.seq #[] 0), #[]⟩
def o124_0 (P : Params) : Obj := ⟨.none, none, (.func (zf (mS 9 0) "passes" "Condition.passes" 0 [] .none .none .none .none none .none .none 0)), #[]⟩
def o125_0 (P : Params) : Obj := ⟨(.type "code"), none, (.fields #[(.str "passes" 321), (.str "Condition.passes" 322), (.str "/claim/cut.py" 323), (.int 58 0), (.int 2 0), (.int 0 0), (.int 0 0), (.int 3 0), (.ref 120), (.bool true), (.int 181 0), (.ref 121), .none, (.ref 122), (.ref 123), (.ref 124), (.int 326 0), (.int 58 0), (.str "/claim/cut.py" 327)]), #[]⟩
def o126_0 (P : Params) : Obj := ⟨(.type "function"), none, (.func (zf (mS 9 0) "passes" "Condition.passes" 3 [] .none .none .none (.str "surenear.filters.conditions" 281) none (.ref 125) .none 0)), #[]⟩
def o127_0 (P : Params) : Obj := ⟨(.type "tuple"), none, (.seq #[] 0), #[]⟩
def o128_0 (P : Params) : Obj := ⟨.none, none, (.fields #[]), #[]⟩
def o129_0 (P : Params) : Obj := ⟨(.type "tuple"), none, (.seq #[(.str "self" 332), (.str "other" 333)] 0), #[]⟩
def o130_0 (P : Params) : Obj := ⟨(.type "tuple"), none, (.seq #[] 0), #[]⟩
def o131_0 (P : Params) : Obj := ⟨.none, none, (.func (zf (mS 9 1) "__and__" "Condition.__and__" 0 [] .none .none .none .none none .none .none 0)), #[]⟩
def o132_0 (P : Params) : Obj := ⟨(.type "code"), none, (.fields #[(.str "__and__" 329), (.str "Condition.__and__" 330), (.str "/claim/cut.py" 331), (.int 61 0), (.int 2 0), (.int 0 0), (.int 0 0), (.int 3 0), (.ref 127), (.bool true), (.int 181 0), (.ref 128), .none, (.ref 129), (.ref 130), (.ref 131), (.int 334 0), (.int 61 0), (.str "/claim/cut.py" 335)]), #[]⟩
def o133_0 (P : Params) : Obj := ⟨(.type "function"), none, (.func (zf (mS 9 1) "__and__" "Condition.__and__" 3 [] .none .none .none (.str "surenear.filters.conditions" 281) none (.ref 132) .none 0)), #[]⟩
def o134_0 (P : Params) : Obj := ⟨(.type "tuple"), none, (.seq #[] 0), #[]⟩
def o135_0 (P : Params) : Obj := ⟨.none, none, (.fields #[]), #[]⟩
def o136_0 (P : Params) : Obj := ⟨(.type "tuple"), none, (.seq #[(.str "self" 340), (.str "other" 341)] 0), #[]⟩
def o137_0 (P : Params) : Obj := ⟨(.type "tuple"), none, (.seq #[] 0), #[]⟩
def o138_0 (P : Params) : Obj := ⟨.none, none, (.func (zf (mS 9 2) "__or__" "Condition.__or__" 0 [] .none .none .none .none none .none .none 0)), #[]⟩
def o139_0 (P : Params) : Obj := ⟨(.type "code"), none, (.fields #[(.str "__or__" 337), (.str "Condition.__or__" 338), (.str "/claim/cut.py" 339), (.int 64 0), (.int 2 0), (.int 0 0), (.int 0 0), (.int 3 0), (.ref 134), (.bool true), (.int 181 0), (.ref 135), .none, (.ref 136), (.ref 137), (.ref 138), (.int 342 0), (.int 64 0), (.str "/claim/cut.py" 343)]), #[]⟩
def o140_0 (P : Params) : Obj := ⟨(.type "function"), none, (.func (zf (mS 9 2) "__or__" "Condition.__or__" 3 [] .none .none .none (.str "surenear.filters.conditions" 281) none (.ref 139) .none 0)), #[]⟩
def o141_0 (P : Params) : Obj := ⟨(.type "tuple"), none, (.seq #[] 0), #[]⟩
def o142_0 (P : Params) : Obj := ⟨.none, none, (.fields #[]), #[]⟩
def o143_0 (P : Params) : Obj := ⟨(.type "tuple"), none, (.seq #[(.str "self" 348)] 0), #[]⟩
def o144_0 (P : Params) : Obj := ⟨(.type "tuple"), none, (.seq #[] 0), #[]⟩
def o145_0 (P : Params) : Obj := ⟨.none, none, (.func (zf (mS 9 3) "__invert__" "Condition.__invert__" 0 [] .none .none .none .none none .none .none 0)), #[]⟩
def o146_0 (P : Params) : Obj := ⟨(.type "code"), none, (.fields #[(.str "__invert__" 345), (.str "Condition.__invert__" 346), (.str "/claim/cut.py" 347), (.int 67 0), (.int 1 0), (.int 0 0), (.int 0 0), (.int 3 0), (.ref 141), (.bool true), (.int 181 0), (.ref 142), .none, (.ref 143), (.ref 144), (.ref 145), (.int 349 0), (.int 67 0), (.str "/claim/cut.py" 350)]), #[]⟩
def o147_0 (P : Params) : Obj := ⟨(.type "function"), none, (.func (zf (mS 9 3) "__invert__" "Condition.__invert__" 3 [] .none .none .none (.str "surenear.filters.conditions" 281) none (.ref 146) .none 0)), #[]⟩
def o148_0 (P : Params) : Obj := ⟨(.type "tuple"), none, (.seq #[] 0), #[]⟩
def o149_0 (P : Params) : Obj := ⟨.none, none, (.fields #[]), #[]⟩
def o150_0 (P : Params) : Obj := ⟨(.type "tuple"), none, (.seq #[(.str "self" 355)] 0), #[]⟩
def o151_0 (P : Params) : Obj := ⟨(.type "tuple"), none, (.seq #[] 0), #[]⟩
def o152_0 (P : Params) : Obj := ⟨.none, none, (.func (zf (mS 9 4) "__str__" "Condition.__str__" 0 [] .none .none .none .none none .none .none 0)), #[]⟩
def o153_0 (P : Params) : Obj := ⟨(.type "code"), none, (.fields #[(.str "__str__" 352), (.str "Condition.__str__" 353), (.str "/claim/cut.py" 354), (.int 70 0), (.int 1 0), (.int 0 0), (.int 0 0), (.int 3 0), (.ref 148), (.bool true), (.int 181 0), (.ref 149), .none, (.ref 150), (.ref 151), (.ref 152), (.int 356 0), (.int 70 0), (.str "/claim/cut.py" 357)]), #[]⟩
def o154_0 (P : Params) : Obj := ⟨(.type "function"), none, (.func (zf (mS 9 4) "__str__" "Condition.__str__" 3 [] .none .none .none (.str "surenear.filters.conditions" 281) none (.ref 153) .none 0)), #[]⟩
def o155_0 (P : Params) : Obj := ⟨(.type "tuple"), none, (.seq #[] 0), #[]⟩
def o156_0 (P : Params) : Obj := ⟨.none, none, (.fields #[]), #[]⟩
def o157_0 (P : Params) : Obj := ⟨(.type "tuple"), none, (.seq #[(.str "self" 362), (.str "other" 363)] 0), #[]⟩
def o158_0 (P : Params) : Obj := ⟨(.type "tuple"), none, (.seq #[] 0), #[]⟩
def o159_0 (P : Params) : Obj := ⟨.none, none, (.func (zf (mS 9 5) "__eq__" "Condition.__eq__" 0 [] .none .none .none .none none .none .none 0)), #[]⟩
def o160_0 (P : Params) : Obj := ⟨(.type "code"), none, (.fields #[(.str "__eq__" 359), (.str "Condition.__eq__" 360), (.str "/claim/cut.py" 361), (.int 73 0), (.int 2 0), (.int 0 0), (.int 0 0), (.int 3 0), (.ref 155), (.bool true), (.int 181 0), (.ref 156), .none, (.ref 157), (.ref 158), (.ref 159), (.int 364 0), (.int 73 0), (.str "/claim/cut.py" 365)]), #[]⟩
def o161_0 (P : Params) : Obj := ⟨(.type "function"), none, (.func (zf (mS 9 5) "__eq__" "Condition.__eq__" 3 [] .none .none .none (.str "surenear.filters.conditions" 281) none (.ref 160) .none 0)), #[]⟩
def o162_0 (P : Params) : Obj := ⟨(.type "tuple"), none, (.seq #[] 0), #[]⟩
def o163_0 (P : Params) : Obj := ⟨(.type "dict"), none, (.dict #[zd P "__module__" 316 (.str "surenear.filters.conditions" 281), zd P "__firstlineno__" 320 (.int 56 319), zd P "passes" 328 (.ref 126), zd P "__and__" 336 (.ref 133), zd P "__or__" 344 (.ref 140), zd P "__invert__" 351 (.ref 147), zd P "__str__" 358 (.ref 154), zd P "__eq__" 366 (.ref 161), zd P "__static_attributes__" 367 (.ref 162), zd P "__dict__" 369 (.ref 165), zd P "__weakref__" 371 (.ref 166), zd P "__doc__" 372 .none, zd P "__hash__" 373 .none] 5), #[]⟩
def o164_0 (P : Params) : Obj := ⟨(.type "type"), none, (.cls ⟨"Condition", [(.type "object")], [(.ref 164), (.type "object")], 163, "Condition", true, [], [(.ref 185), (.ref 211), (.ref 237), (.ref 263), (.ref 289)], false, none, false⟩), #[none, none, (some (.str "Condition" 309)), (some (.str "Condition" 317)), (some (.builtin "object.__new__")), (some (.bool true))]⟩
def o165_0 (P : Params) : Obj := ⟨(.type "getset_descriptor"), none, (.fields #[(.str "__dict__" 368), (.ref 164), (.builtin "function.__dict__"), (.builtin "function.__dict__#set")]), #[]⟩
def o166_0 (P : Params) : Obj := ⟨(.type "getset_descriptor"), none, (.fields #[(.str "__weakref__" 370), (.ref 164), (.builtin "ExceptionGroup.__weakref__"), .none]), #[]⟩
def o167_0 (P : Params) : Obj := ⟨(.type "super"), none, (.fields #[(.ref 164), (.ref 164), (.ref 164)]), #[]⟩
def o168_0 (P : Params) : Obj := ⟨(.type "builtin_function_or_method"), none, (.fields #[(.builtin "object.__init_subclass__"), (.ref 164)]), #[]⟩
def o169_0 (P : Params) : Obj := ⟨(.type "tuple"), none, (.seq #[(.ref 164)] 0), #[]⟩
def o170_0 (P : Params) : Obj := ⟨(.type "builtin_function_or_method"), none, (.fields #[(.builtin "type.__prepare__"), (.type "type")]), #[]⟩
def o171_0 (P : Params) : Obj := ⟨(.type "dict"), none, (.dict #[zd P "__module__" 383 (.str "surenear.filters.conditions" 281), zd P "__qualname__" 385 (.str "Every" 384), zd P "__firstlineno__" 387 (.int 75 386), zd P "passes" 395 (.ref 182), zd P "__static_attributes__" 396 (.ref 183)] 5), #[]⟩
def o172_0 (P : Params) : Obj := ⟨(.type "tuple"), none, (.seq #[] 0), #[]⟩
def o173_0 (P : Params) : Obj := ⟨.none, none, (.fields #[(.int 77 0), (.int 4 0), (.ref 181)]), #[]⟩
def o174_0 (P : Params) : Obj := ⟨(.type "code"), none, (.fields #[(.str "Every" 378), (.str "Every" 379), (.str "/claim/cut.py" 380), (.int 75 0), (.int 0 0), (.int 0 0), (.int 0 0), (.int 0 0), (.ref 172), (.bool false), (.int 181 0), (.ref 173), .none, .none, .none, .none, (.int 381 0), (.int 75 0), (.str "/claim/cut.py" 382)]), #[]⟩
def o175_0 (P : Params) : Obj := ⟨(.type "frame"), none, .plain, #[(some (.ref 174)), (some (.ref 3)), (some (.ref 171)), none, (some (.str "surenear.filters.conditions" 281)), none, (some (.ref 0))]⟩
def o176_0 (P : Params) : Obj := ⟨(.type "tuple"), none, (.seq #[] 0), #[]⟩
def o177_0 (P : Params) : Obj := ⟨.none, none, (.fields #[]), #[]⟩
def o178_0 (P : Params) : Obj := ⟨(.type "tuple"), none, (.seq #[(.str "self" 391), (.str "record" 392)] 0), #[]⟩
def o179_0 (P : Params) : Obj := ⟨(.type "tuple"), none, (.seq #[] 0), #[]⟩
def o180_0 (P : Params) : Obj := ⟨.none, none, (.func (zf (mS 10 0) "passes" "Every.passes" 0 [] .none .none .none .none none .none .none 0)), #[]⟩
def o181_0 (P : Params) : Obj := ⟨(.type "code"), none, (.fields #[(.str "passes" 388), (.str "Every.passes" 389), (.str "/claim/cut.py" 390), (.int 77 0), (.int 2 0), (.int 0 0), (.int 0 0), (.int 3 0), (.ref 176), (.bool true), (.int 181 0), (.ref 177), .none, (.ref 178), (.ref 179), (.ref 180), (.int 393 0), (.int 77 0), (.str "/claim/cut.py" 394)]), #[]⟩
def o182_0 (P : Params) : Obj := ⟨(.type "function"), none, (.func (zf (mS 10 0) "passes" "Every.passes" 3 [] .none .none .none (.str "surenear.filters.conditions" 281) none (.ref 181) .none 0)), #[]⟩
def o183_0 (P : Params) : Obj := ⟨(.type "tuple"), none, (.seq #[] 0), #[]⟩
def o184_0 (P : Params) : Obj := ⟨(.type "dict"), none, (.dict #[zd P "__module__" 383 (.str "surenear.filters.conditions" 281), zd P "__firstlineno__" 387 (.int 75 386), zd P "passes" 395 (.ref 182), zd P "__static_attributes__" 396 (.ref 183), zd P "__doc__" 397 .none] 2), #[]⟩
def o185_0 (P : Params) : Obj := ⟨(.type "type"), none, (.cls ⟨"Every", [(.ref 164)], [(.ref 185), (.ref 164), (.type "object")], 184, "Every", true, [], [], false, none, false⟩), #[(some (.ref 169)), none, (some (.str "Every" 376)), (some (.str "Every" 384)), (some (.builtin "object.__new__")), (some (.bool true))]⟩
def o186_0 (P : Params) : Obj := ⟨(.type "super"), none, (.fields #[(.ref 185), (.ref 185), (.ref 185)]), #[]⟩
def o187_0 (P : Params) : Obj := ⟨(.type "builtin_function_or_method"), none, (.fields #[(.builtin "object.__init_subclass__"), (.ref 185)]), #[]⟩
def o188_0 (P : Params) : Obj := ⟨(.type "tuple"), none, (.seq #[(.ref 164)] 0), #[]⟩
def o189_0 (P : Params) : Obj := ⟨(.type "builtin_function_or_method"), none, (.fields #[(.builtin "type.__prepare__"), (.type "type")]), #[]⟩
def o190_0 (P : Params) : Obj := ⟨(.type "dict"), none, (.dict #[zd P "__module__" 407 (.str "surenear.filters.conditions" 281), zd P "__qualname__" 409 (.str "Has" 408), zd P "__firstlineno__" 411 (.int 79 410), zd P "__init__" 419 (.ref 201), zd P "passes" 427 (.ref 208), zd P "__static_attributes__" 429 (.ref 209)] 6), #[]⟩
def o191_0 (P : Params) : Obj := ⟨(.type "tuple"), none, (.seq #[] 0), #[]⟩
def o192_0 (P : Params) : Obj := ⟨.none, none, (.fields #[(.int 81 0), (.int 4 0), (.ref 200), (.int 84 0), (.int 4 0), (.ref 207)]), #[]⟩
def o193_0 (P : Params) : Obj := ⟨(.type "code"), none, (.fields #[(.str "Has" 402), (.str "Has" 403), (.str "/claim/cut.py" 404), (.int 79 0), (.int 0 0), (.int 0 0), (.int 0 0), (.int 0 0), (.ref 191), (.bool false), (.int 181 0), (.ref 192), .none, .none, .none, .none, (.int 405 0), (.int 79 0), (.str "/claim/cut.py" 406)]), #[]⟩
def o194_0 (P : Params) : Obj := ⟨(.type "frame"), none, .plain, #[(some (.ref 193)), (some (.ref 3)), (some (.ref 190)), none, (some (.str "surenear.filters.conditions" 281)), none, (some (.ref 0))]⟩
def o195_0 (P : Params) : Obj := ⟨(.type "tuple"), none, (.seq #[] 0), #[]⟩
def o196_0 (P : Params) : Obj := ⟨.none, none, (.fields #[]), #[]⟩
def o197_0 (P : Params) : Obj := ⟨(.type "tuple"), none, (.seq #[(.str "self" 415), (.str "field" 416)] 0), #[]⟩
def o198_0 (P : Params) : Obj := ⟨(.type "tuple"), none, (.seq #[] 0), #[]⟩
def o199_0 (P : Params) : Obj := ⟨.none, none, (.func (zf (mS 11 0) "__init__" "Has.__init__" 0 [] .none .none .none .none none .none .none 0)), #[]⟩
def o200_0 (P : Params) : Obj := ⟨(.type "code"), none, (.fields #[(.str "__init__" 412), (.str "Has.__init__" 413), (.str "/claim/cut.py" 414), (.int 81 0), (.int 2 0), (.int 0 0), (.int 0 0), (.int 3 0), (.ref 195), (.bool true), (.int 181 0), (.ref 196), .none, (.ref 197), (.ref 198), (.ref 199), (.int 417 0), (.int 81 0), (.str "/claim/cut.py" 418)]), #[]⟩
def o201_0 (P : Params) : Obj := ⟨(.type "function"), none, (.func (zf (mS 11 0) "__init__" "Has.__init__" 3 [] .none .none .none (.str "surenear.filters.conditions" 281) none (.ref 200) .none 0)), #[]⟩
def o202_0 (P : Params) : Obj := ⟨(.type "tuple"), none, (.seq #[] 0), #[]⟩
def o203_0 (P : Params) : Obj := ⟨.none, none, (.fields #[]), #[]⟩
def o204_0 (P : Params) : Obj := ⟨(.type "tuple"), none, (.seq #[(.str "self" 423), (.str "record" 424)] 0), #[]⟩
def o205_0 (P : Params) : Obj := ⟨(.type "tuple"), none, (.seq #[] 0), #[]⟩
def o206_0 (P : Params) : Obj := ⟨.none, none, (.func (zf (mS 11 1) "passes" "Has.passes" 0 [] .none .none .none .none none .none .none 0)), #[]⟩
def o207_0 (P : Params) : Obj := ⟨(.type "code"), none, (.fields #[(.str "passes" 420), (.str "Has.passes" 421), (.str "/claim/cut.py" 422), (.int 84 0), (.int 2 0), (.int 0 0), (.int 0 0), (.int 3 0), (.ref 202), (.bool true), (.int 181 0), (.ref 203), .none, (.ref 204), (.ref 205), (.ref 206), (.int 425 0), (.int 84 0), (.str "/claim/cut.py" 426)]), #[]⟩
def o208_0 (P : Params) : Obj := ⟨(.type "function"), none, (.func (zf (mS 11 1) "passes" "Has.passes" 3 [] .none .none .none (.str "surenear.filters.conditions" 281) none (.ref 207) .none 0)), #[]⟩
def o209_0 (P : Params) : Obj := ⟨(.type "tuple"), none, (.seq #[(.str "field" 428)] 0), #[]⟩
def o210_0 (P : Params) : Obj := ⟨(.type "dict"), none, (.dict #[zd P "__module__" 407 (.str "surenear.filters.conditions" 281), zd P "__firstlineno__" 411 (.int 79 410), zd P "__init__" 419 (.ref 201), zd P "passes" 427 (.ref 208), zd P "__static_attributes__" 429 (.ref 209), zd P "__doc__" 430 .none] 2), #[]⟩
def o211_0 (P : Params) : Obj := ⟨(.type "type"), none, (.cls ⟨"Has", [(.ref 164)], [(.ref 211), (.ref 164), (.type "object")], 210, "Has", true, [], [], false, none, false⟩), #[(some (.ref 188)), none, (some (.str "Has" 400)), (some (.str "Has" 408)), (some (.builtin "object.__new__")), (some (.bool true))]⟩
def o212_0 (P : Params) : Obj := ⟨(.type "super"), none, (.fields #[(.ref 211), (.ref 211), (.ref 211)]), #[]⟩
def o213_0 (P : Params) : Obj := ⟨(.type "builtin_function_or_method"), none, (.fields #[(.builtin "object.__init_subclass__"), (.ref 211)]), #[]⟩
def o214_0 (P : Params) : Obj := ⟨(.type "tuple"), none, (.seq #[(.ref 164)] 0), #[]⟩
def o215_0 (P : Params) : Obj := ⟨(.type "builtin_function_or_method"), none, (.fields #[(.builtin "type.__prepare__"), (.type "type")]), #[]⟩
def o216_0 (P : Params) : Obj := ⟨(.type "dict"), none, (.dict #[zd P "__module__" 440 (.str "surenear.filters.conditions" 281), zd P "__qualname__" 442 (.str "Compare" 441), zd P "__firstlineno__" 444 (.int 86 443), zd P "__init__" 454 (.ref 227), zd P "passes" 462 (.ref 234), zd P "__static_attributes__" 466 (.ref 235)] 6), #[]⟩
def o217_0 (P : Params) : Obj := ⟨(.type "tuple"), none, (.seq #[] 0), #[]⟩
def o218_0 (P : Params) : Obj := ⟨.none, none, (.fields #[(.int 88 0), (.int 4 0), (.ref 226), (.int 93 0), (.int 4 0), (.ref 233)]), #[]⟩
def o219_0 (P : Params) : Obj := ⟨(.type "code"), none, (.fields #[(.str "Compare" 435), (.str "Compare" 436), (.str "/claim/cut.py" 437), (.int 86 0), (.int 0 0), (.int 0 0), (.int 0 0), (.int 0 0), (.ref 217), (.bool false), (.int 181 0), (.ref 218), .none, .none, .none, .none, (.int 438 0), (.int 86 0), (.str "/claim/cut.py" 439)]), #[]⟩
def o220_0 (P : Params) : Obj := ⟨(.type "frame"), none, .plain, #[(some (.ref 219)), (some (.ref 3)), (some (.ref 216)), none, (some (.str "surenear.filters.conditions" 281)), none, (some (.ref 0))]⟩
def o221_0 (P : Params) : Obj := ⟨(.type "tuple"), none, (.seq #[] 0), #[]⟩
def o222_0 (P : Params) : Obj := ⟨.none, none, (.fields #[]), #[]⟩
def o223_0 (P : Params) : Obj := ⟨(.type "tuple"), none, (.seq #[(.str "self" 448), (.str "field" 449), (.str "sign" 450), (.str "value" 451)] 0), #[]⟩
def o224_0 (P : Params) : Obj := ⟨(.type "tuple"), none, (.seq #[] 0), #[]⟩
def o225_0 (P : Params) : Obj := ⟨.none, none, (.func (zf (mS 12 0) "__init__" "Compare.__init__" 0 [] .none .none .none .none none .none .none 0)), #[]⟩
def o226_0 (P : Params) : Obj := ⟨(.type "code"), none, (.fields #[(.str "__init__" 445), (.str "Compare.__init__" 446), (.str "/claim/cut.py" 447), (.int 88 0), (.int 4 0), (.int 0 0), (.int 0 0), (.int 3 0), (.ref 221), (.bool true), (.int 181 0), (.ref 222), .none, (.ref 223), (.ref 224), (.ref 225), (.int 452 0), (.int 88 0), (.str "/claim/cut.py" 453)]), #[]⟩
def o227_0 (P : Params) : Obj := ⟨(.type "function"), none, (.func (zf (mS 12 0) "__init__" "Compare.__init__" 3 [] .none .none .none (.str "surenear.filters.conditions" 281) none (.ref 226) .none 0)), #[]⟩
def o228_0 (P : Params) : Obj := ⟨(.type "tuple"), none, (.seq #[] 0), #[]⟩
def o229_0 (P : Params) : Obj := ⟨.none, none, (.fields #[]), #[]⟩
def o230_0 (P : Params) : Obj := ⟨(.type "tuple"), none, (.seq #[(.str "self" 458), (.str "record" 459)] 0), #[]⟩
def o231_0 (P : Params) : Obj := ⟨(.type "tuple"), none, (.seq #[] 0), #[]⟩
def o232_0 (P : Params) : Obj := ⟨.none, none, (.func (zf (mS 12 1) "passes" "Compare.passes" 0 [] .none .none .none .none none .none .none 0)), #[]⟩
def o233_0 (P : Params) : Obj := ⟨(.type "code"), none, (.fields #[(.str "passes" 455), (.str "Compare.passes" 456), (.str "/claim/cut.py" 457), (.int 93 0), (.int 2 0), (.int 0 0), (.int 0 0), (.int 3 0), (.ref 228), (.bool true), (.int 181 0), (.ref 229), .none, (.ref 230), (.ref 231), (.ref 232), (.int 460 0), (.int 93 0), (.str "/claim/cut.py" 461)]), #[]⟩
def o234_0 (P : Params) : Obj := ⟨(.type "function"), none, (.func (zf (mS 12 1) "passes" "Compare.passes" 3 [] .none .none .none (.str "surenear.filters.conditions" 281) none (.ref 233) .none 0)), #[]⟩
def o235_0 (P : Params) : Obj := ⟨(.type "tuple"), none, (.seq #[(.str "field" 463), (.str "sign" 464), (.str "value" 465)] 0), #[]⟩
def o236_0 (P : Params) : Obj := ⟨(.type "dict"), none, (.dict #[zd P "__module__" 440 (.str "surenear.filters.conditions" 281), zd P "__firstlineno__" 444 (.int 86 443), zd P "__init__" 454 (.ref 227), zd P "passes" 462 (.ref 234), zd P "__static_attributes__" 466 (.ref 235), zd P "__doc__" 467 .none] 2), #[]⟩
def o237_0 (P : Params) : Obj := ⟨(.type "type"), none, (.cls ⟨"Compare", [(.ref 164)], [(.ref 237), (.ref 164), (.type "object")], 236, "Compare", true, [], [], false, none, false⟩), #[(some (.ref 214)), none, (some (.str "Compare" 433)), (some (.str "Compare" 441)), (some (.builtin "object.__new__")), (some (.bool true))]⟩
def o238_0 (P : Params) : Obj := ⟨(.type "super"), none, (.fields #[(.ref 237), (.ref 237), (.ref 237)]), #[]⟩
def o239_0 (P : Params) : Obj := ⟨(.type "builtin_function_or_method"), none, (.fields #[(.builtin "object.__init_subclass__"), (.ref 237)]), #[]⟩
def o240_0 (P : Params) : Obj := ⟨(.type "tuple"), none, (.seq #[(.ref 164)] 0), #[]⟩
def o241_0 (P : Params) : Obj := ⟨(.type "builtin_function_or_method"), none, (.fields #[(.builtin "type.__prepare__"), (.type "type")]), #[]⟩
def o242_0 (P : Params) : Obj := ⟨(.type "dict"), none, (.dict #[zd P "__module__" 477 (.str "surenear.filters.conditions" 281), zd P "__qualname__" 479 (.str "OneOf" 478), zd P "__firstlineno__" 481 (.int 95 480), zd P "__init__" 490 (.ref 253), zd P "passes" 498 (.ref 260), zd P "__static_attributes__" 501 (.ref 261)] 6), #[]⟩
def o243_0 (P : Params) : Obj := ⟨(.type "tuple"), none, (.seq #[] 0), #[]⟩
def o244_0 (P : Params) : Obj := ⟨.none, none, (.fields #[(.int 97 0), (.int 4 0), (.ref 252), (.int 101 0), (.int 4 0), (.ref 259)]), #[]⟩
def o245_0 (P : Params) : Obj := ⟨(.type "code"), none, (.fields #[(.str "OneOf" 472), (.str "OneOf" 473), (.str "/claim/cut.py" 474), (.int 95 0), (.int 0 0), (.int 0 0), (.int 0 0), (.int 0 0), (.ref 243), (.bool false), (.int 181 0), (.ref 244), .none, .none, .none, .none, (.int 475 0), (.int 95 0), (.str "/claim/cut.py" 476)]), #[]⟩
def o246_0 (P : Params) : Obj := ⟨(.type "frame"), none, .plain, #[(some (.ref 245)), (some (.ref 3)), (some (.ref 242)), none, (some (.str "surenear.filters.conditions" 281)), none, (some (.ref 0))]⟩
def o247_0 (P : Params) : Obj := ⟨(.type "tuple"), none, (.seq #[] 0), #[]⟩
def o248_0 (P : Params) : Obj := ⟨.none, none, (.fields #[]), #[]⟩
def o249_0 (P : Params) : Obj := ⟨(.type "tuple"), none, (.seq #[(.str "self" 485), (.str "field" 486), (.str "choices" 487)] 0), #[]⟩
def o250_0 (P : Params) : Obj := ⟨(.type "tuple"), none, (.seq #[] 0), #[]⟩
def o251_0 (P : Params) : Obj := ⟨.none, none, (.func (zf (mS 13 0) "__init__" "OneOf.__init__" 0 [] .none .none .none .none none .none .none 0)), #[]⟩
def o252_0 (P : Params) : Obj := ⟨(.type "code"), none, (.fields #[(.str "__init__" 482), (.str "OneOf.__init__" 483), (.str "/claim/cut.py" 484), (.int 97 0), (.int 3 0), (.int 0 0), (.int 0 0), (.int 3 0), (.ref 247), (.bool true), (.int 181 0), (.ref 248), .none, (.ref 249), (.ref 250), (.ref 251), (.int 488 0), (.int 97 0), (.str "/claim/cut.py" 489)]), #[]⟩
def o253_0 (P : Params) : Obj := ⟨(.type "function"), none, (.func (zf (mS 13 0) "__init__" "OneOf.__init__" 3 [] .none .none .none (.str "surenear.filters.conditions" 281) none (.ref 252) .none 0)), #[]⟩
def o254_0 (P : Params) : Obj := ⟨(.type "tuple"), none, (.seq #[] 0), #[]⟩
def o255_0 (P : Params) : Obj := ⟨.none, none, (.fields #[]), #[]⟩
def o256_0 (P : Params) : Obj := ⟨(.type "tuple"), none, (.seq #[(.str "self" 494), (.str "record" 495)] 0), #[]⟩
def o257_0 (P : Params) : Obj := ⟨(.type "tuple"), none, (.seq #[] 0), #[]⟩
def o258_0 (P : Params) : Obj := ⟨.none, none, (.func (zf (mS 13 1) "passes" "OneOf.passes" 0 [] .none .none .none .none none .none .none 0)), #[]⟩
def o259_0 (P : Params) : Obj := ⟨(.type "code"), none, (.fields #[(.str "passes" 491), (.str "OneOf.passes" 492), (.str "/claim/cut.py" 493), (.int 101 0), (.int 2 0), (.int 0 0), (.int 0 0), (.int 3 0), (.ref 254), (.bool true), (.int 181 0), (.ref 255), .none, (.ref 256), (.ref 257), (.ref 258), (.int 496 0), (.int 101 0), (.str "/claim/cut.py" 497)]), #[]⟩
def o260_0 (P : Params) : Obj := ⟨(.type "function"), none, (.func (zf (mS 13 1) "passes" "OneOf.passes" 3 [] .none .none .none (.str "surenear.filters.conditions" 281) none (.ref 259) .none 0)), #[]⟩
def o261_0 (P : Params) : Obj := ⟨(.type "tuple"), none, (.seq #[(.str "choices" 499), (.str "field" 500)] 0), #[]⟩
def o262_0 (P : Params) : Obj := ⟨(.type "dict"), none, (.dict #[zd P "__module__" 477 (.str "surenear.filters.conditions" 281), zd P "__firstlineno__" 481 (.int 95 480), zd P "__init__" 490 (.ref 253), zd P "passes" 498 (.ref 260), zd P "__static_attributes__" 501 (.ref 261), zd P "__doc__" 502 .none] 2), #[]⟩
def o263_0 (P : Params) : Obj := ⟨(.type "type"), none, (.cls ⟨"OneOf", [(.ref 164)], [(.ref 263), (.ref 164), (.type "object")], 262, "OneOf", true, [], [], false, none, false⟩), #[(some (.ref 240)), none, (some (.str "OneOf" 470)), (some (.str "OneOf" 478)), (some (.builtin "object.__new__")), (some (.bool true))]⟩
def o264_0 (P : Params) : Obj := ⟨(.type "super"), none, (.fields #[(.ref 263), (.ref 263), (.ref 263)]), #[]⟩
def o265_0 (P : Params) : Obj := ⟨(.type "builtin_function_or_method"), none, (.fields #[(.builtin "object.__init_subclass__"), (.ref 263)]), #[]⟩
def o266_0 (P : Params) : Obj := ⟨(.type "tuple"), none, (.seq #[(.ref 164)] 0), #[]⟩
def o267_0 (P : Params) : Obj := ⟨(.type "builtin_function_or_method"), none, (.fields #[(.builtin "type.__prepare__"), (.type "type")]), #[]⟩
def o268_0 (P : Params) : Obj := ⟨(.type "dict"), none, (.dict #[zd P "__module__" 512 (.str "surenear.filters.conditions" 281), zd P "__qualname__" 514 (.str "Both" 513), zd P "__firstlineno__" 516 (.int 103 515), zd P "__init__" 525 (.ref 279), zd P "passes" 533 (.ref 286), zd P "__static_attributes__" 536 (.ref 287)] 6), #[]⟩
def o269_0 (P : Params) : Obj := ⟨(.type "tuple"), none, (.seq #[] 0), #[]⟩
def o270_0 (P : Params) : Obj := ⟨.none, none, (.fields #[(.int 105 0), (.int 4 0), (.ref 278), (.int 109 0), (.int 4 0), (.ref 285)]), #[]⟩
def o271_0 (P : Params) : Obj := ⟨(.type "code"), none, (.fields #[(.str "Both" 507), (.str "Both" 508), (.str "/claim/cut.py" 509), (.int 103 0), (.int 0 0), (.int 0 0), (.int 0 0), (.int 0 0), (.ref 269), (.bool false), (.int 181 0), (.ref 270), .none, .none, .none, .none, (.int 510 0), (.int 103 0), (.str "/claim/cut.py" 511)]), #[]⟩
def o272_0 (P : Params) : Obj := ⟨(.type "frame"), none, .plain, #[(some (.ref 271)), (some (.ref 3)), (some (.ref 268)), none, (some (.str "surenear.filters.conditions" 281)), none, (some (.ref 0))]⟩
def o273_0 (P : Params) : Obj := ⟨(.type "tuple"), none, (.seq #[] 0), #[]⟩
def o274_0 (P : Params) : Obj := ⟨.none, none, (.fields #[]), #[]⟩
def o275_0 (P : Params) : Obj := ⟨(.type "tuple"), none, (.seq #[(.str "self" 520), (.str "a" 521), (.str "b" 522)] 0), #[]⟩
def o276_0 (P : Params) : Obj := ⟨(.type "tuple"), none, (.seq #[] 0), #[]⟩
def o277_0 (P : Params) : Obj := ⟨.none, none, (.func (zf (mS 14 0) "__init__" "Both.__init__" 0 [] .none .none .none .none none .none .none 0)), #[]⟩
def o278_0 (P : Params) : Obj := ⟨(.type "code"), none, (.fields #[(.str "__init__" 517), (.str "Both.__init__" 518), (.str "/claim/cut.py" 519), (.int 105 0), (.int 3 0), (.int 0 0), (.int 0 0), (.int 3 0), (.ref 273), (.bool true), (.int 181 0), (.ref 274), .none, (.ref 275), (.ref 276), (.ref 277), (.int 523 0), (.int 105 0), (.str "/claim/cut.py" 524)]), #[]⟩
def o279_0 (P : Params) : Obj := ⟨(.type "function"), none, (.func (zf (mS 14 0) "__init__" "Both.__init__" 3 [] .none .none .none (.str "surenear.filters.conditions" 281) none (.ref 278) .none 0)), #[]⟩
def o280_0 (P : Params) : Obj := ⟨(.type "tuple"), none, (.seq #[] 0), #[]⟩
def o281_0 (P : Params) : Obj := ⟨.none, none, (.fields #[]), #[]⟩
def o282_0 (P : Params) : Obj := ⟨(.type "tuple"), none, (.seq #[(.str "self" 529), (.str "record" 530)] 0), #[]⟩
def o283_0 (P : Params) : Obj := ⟨(.type "tuple"), none, (.seq #[] 0), #[]⟩
def o284_0 (P : Params) : Obj := ⟨.none, none, (.func (zf (mS 14 1) "passes" "Both.passes" 0 [] .none .none .none .none none .none .none 0)), #[]⟩
def o285_0 (P : Params) : Obj := ⟨(.type "code"), none, (.fields #[(.str "passes" 526), (.str "Both.passes" 527), (.str "/claim/cut.py" 528), (.int 109 0), (.int 2 0), (.int 0 0), (.int 0 0), (.int 3 0), (.ref 280), (.bool true), (.int 181 0), (.ref 281), .none, (.ref 282), (.ref 283), (.ref 284), (.int 531 0), (.int 109 0), (.str "/claim/cut.py" 532)]), #[]⟩
def o286_0 (P : Params) : Obj := ⟨(.type "function"), none, (.func (zf (mS 14 1) "passes" "Both.passes" 3 [] .none .none .none (.str "surenear.filters.conditions" 281) none (.ref 285) .none 0)), #[]⟩
def o287_0 (P : Params) : Obj := ⟨(.type "tuple"), none, (.seq #[(.str "a" 534), (.str "b" 535)] 0), #[]⟩
def o288_0 (P : Params) : Obj := ⟨(.type "dict"), none, (.dict #[zd P "__module__" 512 (.str "surenear.filters.conditions" 281), zd P "__firstlineno__" 516 (.int 103 515), zd P "__init__" 525 (.ref 279), zd P "passes" 533 (.ref 286), zd P "__static_attributes__" 536 (.ref 287), zd P "__doc__" 537 .none] 2), #[]⟩
def o289_0 (P : Params) : Obj := ⟨(.type "type"), none, (.cls ⟨"Both", [(.ref 164)], [(.ref 289), (.ref 164), (.type "object")], 288, "Both", true, [], [], false, none, false⟩), #[(some (.ref 266)), none, (some (.str "Both" 505)), (some (.str "Both" 513)), (some (.builtin "object.__new__")), (some (.bool true))]⟩
def o290_0 (P : Params) : Obj := ⟨(.type "super"), none, (.fields #[(.ref 289), (.ref 289), (.ref 289)]), #[]⟩
def o291_0 (P : Params) : Obj := ⟨(.type "builtin_function_or_method"), none, (.fields #[(.builtin "object.__init_subclass__"), (.ref 289)]), #[]⟩
def t1 (P : Params) : BT := (nd (PySem.W.boot_o_0 P) (nd (PySem.W.boot_o_1 P) (nd (o3_0 P) (nd (PySem.W.boot_o_7 P) (nd (o15_0 P) (nd (o31_0 P) (nd (o63_0 P) (nd (o127_0 P) (nd (o255_0 P) lf lf) lf) (nd (o191_0 P) lf lf)) (nd (o95_0 P) (nd (o159_0 P) (nd (o287_0 P) lf lf) lf) (nd (o223_0 P) lf lf))) (nd (o47_0 P) (nd (o79_0 P) (nd (o143_0 P) (nd (o271_0 P) lf lf) lf) (nd (o207_0 P) lf lf)) (nd (o111_0 P) (nd (o175_0 P) lf lf) (nd (o239_0 P) lf lf)))) (nd (o23_0 P) (nd (o39_0 P) (nd (o71_0 P) (nd (o135_0 P) (nd (o263_0 P) lf lf) lf) (nd (o199_0 P) lf lf)) (nd (o103_0 P) (nd (o167_0 P) lf lf) (nd (o231_0 P) lf lf))) (nd (o55_0 P) (nd (o87_0 P) (nd (o151_0 P) (nd (o279_0 P) lf lf) lf) (nd (o215_0 P) lf lf)) (nd (o119_0 P) (nd (o183_0 P) lf lf) (nd (o247_0 P) lf lf))))) (nd (o11_0 P) (nd (o19_0 P) (nd (o35_0 P) (nd (o67_0 P) (nd (o131_0 P) (nd (o259_0 P) lf lf) lf) (nd (o195_0 P) lf lf)) (nd (o99_0 P) (nd (o163_0 P) (nd (o291_0 P) lf lf) lf) (nd (o227_0 P) lf lf))) (nd (o51_0 P) (nd (o83_0 P) (nd (o147_0 P) (nd (o275_0 P) lf lf) lf) (nd (o211_0 P) lf lf)) (nd (o115_0 P) (nd (o179_0 P) lf lf) (nd (o243_0 P) lf lf)))) (nd (o27_0 P) (nd (o43_0 P) (nd (o75_0 P) (nd (o139_0 P) (nd (o267_0 P) lf lf) lf) (nd (o203_0 P) lf lf)) (nd (o107_0 P) (nd (o171_0 P) lf lf) (nd (o235_0 P) lf lf))) (nd (o59_0 P) (nd (o91_0 P) (nd (o155_0 P) (nd (o283_0 P) lf lf) lf) (nd (o219_0 P) lf lf)) (nd (o123_0 P) (nd (o187_0 P) lf lf) (nd (o251_0 P) lf lf)))))) (nd (PySem.W.boot_o_5 P) (nd (PySem.W.boot_o_9 P) (nd (o17_0 P) (nd (o33_0 P) (nd (o65_0 P) (nd (o129_0 P) (nd (o257_0 P) lf lf) lf) (nd (o193_0 P) lf lf)) (nd (o97_0 P) (nd (o161_0 P) (nd (o289_0 P) lf lf) lf) (nd (o225_0 P) lf lf))) (nd (o49_0 P) (nd (o81_0 P) (nd (o145_0 P) (nd (o273_0 P) lf lf) lf) (nd (o209_0 P) lf lf)) (nd (o113_0 P) (nd (o177_0 P) lf lf) (nd (o241_0 P) lf lf)))) (nd (o25_0 P) (nd (o41_0 P) (nd (o73_0 P) (nd (o137_0 P) (nd (o265_0 P) lf lf) lf) (nd (o201_0 P) lf lf)) (nd (o105_0 P) (nd (o169_0 P) lf lf) (nd (o233_0 P) lf lf))) (nd (o57_0 P) (nd (o89_0 P) (nd (o153_0 P) (nd (o281_0 P) lf lf) lf) (nd (o217_0 P) lf lf)) (nd (o121_0 P) (nd (o185_0 P) lf lf) (nd (o249_0 P) lf lf))))) (nd (o13_0 P) (nd (o21_0 P) (nd (o37_0 P) (nd (o69_0 P) (nd (o133_0 P) (nd (o261_0 P) lf lf) lf) (nd (o197_0 P) lf lf)) (nd (o101_0 P) (nd (o165_0 P) lf lf) (nd (o229_0 P) lf lf))) (nd (o53_0 P) (nd (o85_0 P) (nd (o149_0 P) (nd (o277_0 P) lf lf) lf) (nd (o213_0 P) lf lf)) (nd (o117_0 P) (nd (o181_0 P) lf lf) (nd (o245_0 P) lf lf)))) (nd (o29_0 P) (nd (o45_0 P) (nd (o77_0 P) (nd (o141_0 P) (nd (o269_0 P) lf lf) lf) (nd (o205_0 P) lf lf)) (nd (o109_0 P) (nd (o173_0 P) lf lf) (nd (o237_0 P) lf lf))) (nd (o61_0 P) (nd (o93_0 P) (nd (o157_0 P) (nd (o285_0 P) lf lf) lf) (nd (o221_0 P) lf lf)) (nd (o125_0 P) (nd (o189_0 P) lf lf) (nd (o253_0 P) lf lf))))))) (nd (PySem.W.boot_o_2 P) (nd (PySem.W.boot_o_4 P) (nd (PySem.W.boot_o_8 P) (nd (o16_0 P) (nd (o32_0 P) (nd (o64_0 P) (nd (o128_0 P) (nd (o256_0 P) lf lf) lf) (nd (o192_0 P) lf lf)) (nd (o96_0 P) (nd (o160_0 P) (nd (o288_0 P) lf lf) lf) (nd (o224_0 P) lf lf))) (nd (o48_0 P) (nd (o80_0 P) (nd (o144_0 P) (nd (o272_0 P) lf lf) lf) (nd (o208_0 P) lf lf)) (nd (o112_0 P) (nd (o176_0 P) lf lf) (nd (o240_0 P) lf lf)))) (nd (o24_0 P) (nd (o40_0 P) (nd (o72_0 P) (nd (o136_0 P) (nd (o264_0 P) lf lf) lf) (nd (o200_0 P) lf lf)) (nd (o104_0 P) (nd (o168_0 P) lf lf) (nd (o232_0 P) lf lf))) (nd (o56_0 P) (nd (o88_0 P) (nd (o152_0 P) (nd (o280_0 P) lf lf) lf) (nd (o216_0 P) lf lf)) (nd (o120_0 P) (nd (o184_0 P) lf lf) (nd (o248_0 P) lf lf))))) (nd (o12_1 P) (nd (o20_0 P) (nd (o36_0 P) (nd (o68_0 P) (nd (o132_0 P) (nd (o260_0 P) lf lf) lf) (nd (o196_0 P) lf lf)) (nd (o100_0 P) (nd (o164_0 P) lf lf) (nd (o228_0 P) lf lf))) (nd (o52_0 P) (nd (o84_0 P) (nd (o148_0 P) (nd (o276_0 P) lf lf) lf) (nd (o212_0 P) lf lf)) (nd (o116_0 P) (nd (o180_0 P) lf lf) (nd (o244_0 P) lf lf)))) (nd (o28_0 P) (nd (o44_0 P) (nd (o76_0 P) (nd (o140_0 P) (nd (o268_0 P) lf lf) lf) (nd (o204_0 P) lf lf)) (nd (o108_0 P) (nd (o172_0 P) lf lf) (nd (o236_0 P) lf lf))) (nd (o60_0 P) (nd (o92_0 P) (nd (o156_0 P) (nd (o284_0 P) lf lf) lf) (nd (o220_0 P) lf lf)) (nd (o124_0 P) (nd (o188_0 P) lf lf) (nd (o252_0 P) lf lf)))))) (nd (PySem.W.boot_o_6 P) (nd (PySem.W.boot_o_10 P) (nd (o18_0 P) (nd (o34_0 P) (nd (o66_0 P) (nd (o130_0 P) (nd (o258_0 P) lf lf) lf) (nd (o194_0 P) lf lf)) (nd (o98_0 P) (nd (o162_0 P) (nd (o290_0 P) lf lf) lf) (nd (o226_0 P) lf lf))) (nd (o50_0 P) (nd (o82_0 P) (nd (o146_0 P) (nd (o274_0 P) lf lf) lf) (nd (o210_0 P) lf lf)) (nd (o114_0 P) (nd (o178_0 P) lf lf) (nd (o242_0 P) lf lf)))) (nd (o26_0 P) (nd (o42_0 P) (nd (o74_0 P) (nd (o138_0 P) (nd (o266_0 P) lf lf) lf) (nd (o202_0 P) lf lf)) (nd (o106_0 P) (nd (o170_0 P) lf lf) (nd (o234_0 P) lf lf))) (nd (o58_0 P) (nd (o90_0 P) (nd (o154_0 P) (nd (o282_0 P) lf lf) lf) (nd (o218_0 P) lf lf)) (nd (o122_0 P) (nd (o186_0 P) lf lf) (nd (o250_0 P) lf lf))))) (nd (o14_0 P) (nd (o22_0 P) (nd (o38_0 P) (nd (o70_0 P) (nd (o134_0 P) (nd (o262_0 P) lf lf) lf) (nd (o198_0 P) lf lf)) (nd (o102_0 P) (nd (o166_0 P) lf lf) (nd (o230_0 P) lf lf))) (nd (o54_0 P) (nd (o86_0 P) (nd (o150_0 P) (nd (o278_0 P) lf lf) lf) (nd (o214_0 P) lf lf)) (nd (o118_0 P) (nd (o182_0 P) lf lf) (nd (o246_0 P) lf lf)))) (nd (o30_0 P) (nd (o46_0 P) (nd (o78_0 P) (nd (o142_0 P) (nd (o270_0 P) lf lf) lf) (nd (o206_0 P) lf lf)) (nd (o110_0 P) (nd (o174_0 P) lf lf) (nd (o238_0 P) lf lf))) (nd (o62_0 P) (nd (o94_0 P) (nd (o158_0 P) (nd (o286_0 P) lf lf) lf) (nd (o222_0 P) lf lf)) (nd (o126_0 P) (nd (o190_0 P) lf lf) (nd (o254_0 P) lf lf))))))))
def s1 (w : World) (os : OsState) : SharedT := ⟨t1 w.params, 292, { }, #[], ⟨0, 0, 0, 0⟩, 540, os⟩
abbrev l1 : List Stmt := (bE.drop 0).take 15
theorem seg1 (w : World) (os : OsState) : segRunT treeTable pr w 11 annV 1 2336 (sA w os) (piecesOf l1 env cE ⟨0, 0, 0, 0⟩ fB) = some (.next, s1 w os, cE, ⟨103, 0, 110, 17⟩) := seg_q (by kernel_rfl)
def o3_1 (P : Params) : Obj := ⟨(.type "dict"), none, (.dict (List.toArray (zd P "__name__" 165 (.str "surenear.facts.contents" 621) :: zd P "__doc__" 166 .none :: zd P "__package__" 167 .none :: zd P "__loader__" 168 (.builtin "__main__.__loader__#opaque") :: zd P "__spec__" 169 .none :: zd P "__annotations__" 170 (.ref 6) :: zd P "__builtins__" 171 (.ref 4) :: zd P "__file__" 173 (.str "/claim/cut.py" 172) :: zd P "__cached__" 174 .none :: zd P "_wall" 193 (.ref 21) :: zd P "Fact" 270 (.ref 80) :: zd P "same_value" 280 (.ref 91) :: zd P "compare" 291 (.ref 98) :: zd P "written_value" 298 (.ref 105) :: zd P "same_values" 308 (.ref 112) :: zd P "Condition" 375 (.ref 164) :: zd P "Every" 399 (.ref 185) :: zd P "Has" 432 (.ref 211) :: zd P "Compare" 469 (.ref 237) :: zd P "OneOf" 504 (.ref 263) :: zd P "Both" 539 (.ref 289) :: zd P "Either" 574 (.ref 315) :: zd P "Negation" 607 (.ref 341) :: zd P "written_part" 614 (.ref 350) :: zd P "written" 620 (.ref 355) :: zd P "satisfies" 630 (.ref 362) :: zd P "same_kind" 638 (.ref 369) :: zd P "is_one_of" 647 (.ref 376) :: zd P "is_integer" 654 (.ref 383) :: zd P "range_passes" 664 (.ref 390) :: [])) 30), #[]⟩
def o12_2 (P : Params) : Obj := ⟨.none, none, (.fields (List.toArray ((.int 1 0) :: (.int 0 0) :: (.ref 20) :: (.int 5 0) :: (.int 0 0) :: (.ref 27) :: (.int 28 0) :: (.int 0 0) :: (.ref 90) :: (.int 31 0) :: (.int 0 0) :: (.ref 97) :: (.int 43 0) :: (.int 0 0) :: (.ref 104) :: (.int 49 0) :: (.int 0 0) :: (.ref 111) :: (.int 56 0) :: (.int 0 0) :: (.ref 118) :: (.int 75 0) :: (.int 0 0) :: (.ref 174) :: (.int 79 0) :: (.int 0 0) :: (.ref 193) :: (.int 86 0) :: (.int 0 0) :: (.ref 219) :: (.int 95 0) :: (.int 0 0) :: (.ref 245) :: (.int 103 0) :: (.int 0 0) :: (.ref 271) :: (.int 111 0) :: (.int 0 0) :: (.ref 297) :: (.int 119 0) :: (.int 0 0) :: (.ref 323) :: (.int 126 0) :: (.int 0 0) :: (.ref 349) :: (.int 130 0) :: (.int 0 0) :: (.ref 354) :: (.int 146 0) :: (.int 0 0) :: (.ref 361) :: (.int 152 0) :: (.int 0 0) :: (.ref 368) :: (.int 154 0) :: (.int 0 0) :: (.ref 375) :: (.int 159 0) :: (.int 0 0) :: (.ref 382) :: (.int 161 0) :: (.int 0 0) :: (.ref 389) :: []))), #[]⟩
def o164_1 (P : Params) : Obj := ⟨(.type "type"), none, (.cls ⟨"Condition", [(.type "object")], [(.ref 164), (.type "object")], 163, "Condition", true, [], [(.ref 185), (.ref 211), (.ref 237), (.ref 263), (.ref 289), (.ref 315), (.ref 341)], false, none, false⟩), #[none, none, (some (.str "Condition" 309)), (some (.str "Condition" 317)), (some (.builtin "object.__new__")), (some (.bool true))]⟩
def o292_0 (P : Params) : Obj := ⟨(.type "tuple"), none, (.seq #[(.ref 164)] 0), #[]⟩
def o293_0 (P : Params) : Obj := ⟨(.type "builtin_function_or_method"), none, (.fields #[(.builtin "type.__prepare__"), (.type "type")]), #[]⟩
def o294_0 (P : Params) : Obj := ⟨(.type "dict"), none, (.dict #[zd P "__module__" 547 (.str "surenear.filters.conditions" 281), zd P "__qualname__" 549 (.str "Either" 548), zd P "__firstlineno__" 551 (.int 111 550), zd P "__init__" 560 (.ref 305), zd P "passes" 568 (.ref 312), zd P "__static_attributes__" 571 (.ref 313)] 6), #[]⟩
def o295_0 (P : Params) : Obj := ⟨(.type "tuple"), none, (.seq #[] 0), #[]⟩
def o296_0 (P : Params) : Obj := ⟨.none, none, (.fields #[(.int 113 0), (.int 4 0), (.ref 304), (.int 117 0), (.int 4 0), (.ref 311)]), #[]⟩
def o297_0 (P : Params) : Obj := ⟨(.type "code"), none, (.fields #[(.str "Either" 542), (.str "Either" 543), (.str "/claim/cut.py" 544), (.int 111 0), (.int 0 0), (.int 0 0), (.int 0 0), (.int 0 0), (.ref 295), (.bool false), (.int 181 0), (.ref 296), .none, .none, .none, .none, (.int 545 0), (.int 111 0), (.str "/claim/cut.py" 546)]), #[]⟩
def o298_0 (P : Params) : Obj := ⟨(.type "frame"), none, .plain, #[(some (.ref 297)), (some (.ref 3)), (some (.ref 294)), none, (some (.str "surenear.filters.conditions" 281)), none, (some (.ref 0))]⟩
def o299_0 (P : Params) : Obj := ⟨(.type "tuple"), none, (.seq #[] 0), #[]⟩
def o300_0 (P : Params) : Obj := ⟨.none, none, (.fields #[]), #[]⟩
def o301_0 (P : Params) : Obj := ⟨(.type "tuple"), none, (.seq #[(.str "self" 555), (.str "a" 556), (.str "b" 557)] 0), #[]⟩
def o302_0 (P : Params) : Obj := ⟨(.type "tuple"), none, (.seq #[] 0), #[]⟩
def o303_0 (P : Params) : Obj := ⟨.none, none, (.func (zf (mS 15 0) "__init__" "Either.__init__" 0 [] .none .none .none .none none .none .none 0)), #[]⟩
def o304_0 (P : Params) : Obj := ⟨(.type "code"), none, (.fields #[(.str "__init__" 552), (.str "Either.__init__" 553), (.str "/claim/cut.py" 554), (.int 113 0), (.int 3 0), (.int 0 0), (.int 0 0), (.int 3 0), (.ref 299), (.bool true), (.int 181 0), (.ref 300), .none, (.ref 301), (.ref 302), (.ref 303), (.int 558 0), (.int 113 0), (.str "/claim/cut.py" 559)]), #[]⟩
def o305_0 (P : Params) : Obj := ⟨(.type "function"), none, (.func (zf (mS 15 0) "__init__" "Either.__init__" 3 [] .none .none .none (.str "surenear.filters.conditions" 281) none (.ref 304) .none 0)), #[]⟩
def o306_0 (P : Params) : Obj := ⟨(.type "tuple"), none, (.seq #[] 0), #[]⟩
def o307_0 (P : Params) : Obj := ⟨.none, none, (.fields #[]), #[]⟩
def o308_0 (P : Params) : Obj := ⟨(.type "tuple"), none, (.seq #[(.str "self" 564), (.str "record" 565)] 0), #[]⟩
def o309_0 (P : Params) : Obj := ⟨(.type "tuple"), none, (.seq #[] 0), #[]⟩
def o310_0 (P : Params) : Obj := ⟨.none, none, (.func (zf (mS 15 1) "passes" "Either.passes" 0 [] .none .none .none .none none .none .none 0)), #[]⟩
def o311_0 (P : Params) : Obj := ⟨(.type "code"), none, (.fields #[(.str "passes" 561), (.str "Either.passes" 562), (.str "/claim/cut.py" 563), (.int 117 0), (.int 2 0), (.int 0 0), (.int 0 0), (.int 3 0), (.ref 306), (.bool true), (.int 181 0), (.ref 307), .none, (.ref 308), (.ref 309), (.ref 310), (.int 566 0), (.int 117 0), (.str "/claim/cut.py" 567)]), #[]⟩
def o312_0 (P : Params) : Obj := ⟨(.type "function"), none, (.func (zf (mS 15 1) "passes" "Either.passes" 3 [] .none .none .none (.str "surenear.filters.conditions" 281) none (.ref 311) .none 0)), #[]⟩
def o313_0 (P : Params) : Obj := ⟨(.type "tuple"), none, (.seq #[(.str "a" 569), (.str "b" 570)] 0), #[]⟩
def o314_0 (P : Params) : Obj := ⟨(.type "dict"), none, (.dict #[zd P "__module__" 547 (.str "surenear.filters.conditions" 281), zd P "__firstlineno__" 551 (.int 111 550), zd P "__init__" 560 (.ref 305), zd P "passes" 568 (.ref 312), zd P "__static_attributes__" 571 (.ref 313), zd P "__doc__" 572 .none] 2), #[]⟩
def o315_0 (P : Params) : Obj := ⟨(.type "type"), none, (.cls ⟨"Either", [(.ref 164)], [(.ref 315), (.ref 164), (.type "object")], 314, "Either", true, [], [], false, none, false⟩), #[(some (.ref 292)), none, (some (.str "Either" 540)), (some (.str "Either" 548)), (some (.builtin "object.__new__")), (some (.bool true))]⟩
def o316_0 (P : Params) : Obj := ⟨(.type "super"), none, (.fields #[(.ref 315), (.ref 315), (.ref 315)]), #[]⟩
def o317_0 (P : Params) : Obj := ⟨(.type "builtin_function_or_method"), none, (.fields #[(.builtin "object.__init_subclass__"), (.ref 315)]), #[]⟩
def o318_0 (P : Params) : Obj := ⟨(.type "tuple"), none, (.seq #[(.ref 164)] 0), #[]⟩
def o319_0 (P : Params) : Obj := ⟨(.type "builtin_function_or_method"), none, (.fields #[(.builtin "type.__prepare__"), (.type "type")]), #[]⟩
def o320_0 (P : Params) : Obj := ⟨(.type "dict"), none, (.dict #[zd P "__module__" 582 (.str "surenear.filters.conditions" 281), zd P "__qualname__" 584 (.str "Negation" 583), zd P "__firstlineno__" 586 (.int 119 585), zd P "__init__" 594 (.ref 331), zd P "passes" 602 (.ref 338), zd P "__static_attributes__" 604 (.ref 339)] 6), #[]⟩
def o321_0 (P : Params) : Obj := ⟨(.type "tuple"), none, (.seq #[] 0), #[]⟩
def o322_0 (P : Params) : Obj := ⟨.none, none, (.fields #[(.int 121 0), (.int 4 0), (.ref 330), (.int 124 0), (.int 4 0), (.ref 337)]), #[]⟩
def o323_0 (P : Params) : Obj := ⟨(.type "code"), none, (.fields #[(.str "Negation" 577), (.str "Negation" 578), (.str "/claim/cut.py" 579), (.int 119 0), (.int 0 0), (.int 0 0), (.int 0 0), (.int 0 0), (.ref 321), (.bool false), (.int 181 0), (.ref 322), .none, .none, .none, .none, (.int 580 0), (.int 119 0), (.str "/claim/cut.py" 581)]), #[]⟩
def o324_0 (P : Params) : Obj := ⟨(.type "frame"), none, .plain, #[(some (.ref 323)), (some (.ref 3)), (some (.ref 320)), none, (some (.str "surenear.filters.conditions" 281)), none, (some (.ref 0))]⟩
def o325_0 (P : Params) : Obj := ⟨(.type "tuple"), none, (.seq #[] 0), #[]⟩
def o326_0 (P : Params) : Obj := ⟨.none, none, (.fields #[]), #[]⟩
def o327_0 (P : Params) : Obj := ⟨(.type "tuple"), none, (.seq #[(.str "self" 590), (.str "a" 591)] 0), #[]⟩
def o328_0 (P : Params) : Obj := ⟨(.type "tuple"), none, (.seq #[] 0), #[]⟩
def o329_0 (P : Params) : Obj := ⟨.none, none, (.func (zf (mS 16 0) "__init__" "Negation.__init__" 0 [] .none .none .none .none none .none .none 0)), #[]⟩
def o330_0 (P : Params) : Obj := ⟨(.type "code"), none, (.fields #[(.str "__init__" 587), (.str "Negation.__init__" 588), (.str "/claim/cut.py" 589), (.int 121 0), (.int 2 0), (.int 0 0), (.int 0 0), (.int 3 0), (.ref 325), (.bool true), (.int 181 0), (.ref 326), .none, (.ref 327), (.ref 328), (.ref 329), (.int 592 0), (.int 121 0), (.str "/claim/cut.py" 593)]), #[]⟩
def o331_0 (P : Params) : Obj := ⟨(.type "function"), none, (.func (zf (mS 16 0) "__init__" "Negation.__init__" 3 [] .none .none .none (.str "surenear.filters.conditions" 281) none (.ref 330) .none 0)), #[]⟩
def o332_0 (P : Params) : Obj := ⟨(.type "tuple"), none, (.seq #[] 0), #[]⟩
def o333_0 (P : Params) : Obj := ⟨.none, none, (.fields #[]), #[]⟩
def o334_0 (P : Params) : Obj := ⟨(.type "tuple"), none, (.seq #[(.str "self" 598), (.str "record" 599)] 0), #[]⟩
def o335_0 (P : Params) : Obj := ⟨(.type "tuple"), none, (.seq #[] 0), #[]⟩
def o336_0 (P : Params) : Obj := ⟨.none, none, (.func (zf (mS 16 1) "passes" "Negation.passes" 0 [] .none .none .none .none none .none .none 0)), #[]⟩
def o337_0 (P : Params) : Obj := ⟨(.type "code"), none, (.fields #[(.str "passes" 595), (.str "Negation.passes" 596), (.str "/claim/cut.py" 597), (.int 124 0), (.int 2 0), (.int 0 0), (.int 0 0), (.int 3 0), (.ref 332), (.bool true), (.int 181 0), (.ref 333), .none, (.ref 334), (.ref 335), (.ref 336), (.int 600 0), (.int 124 0), (.str "/claim/cut.py" 601)]), #[]⟩
def o338_0 (P : Params) : Obj := ⟨(.type "function"), none, (.func (zf (mS 16 1) "passes" "Negation.passes" 3 [] .none .none .none (.str "surenear.filters.conditions" 281) none (.ref 337) .none 0)), #[]⟩
def o339_0 (P : Params) : Obj := ⟨(.type "tuple"), none, (.seq #[(.str "a" 603)] 0), #[]⟩
def o340_0 (P : Params) : Obj := ⟨(.type "dict"), none, (.dict #[zd P "__module__" 582 (.str "surenear.filters.conditions" 281), zd P "__firstlineno__" 586 (.int 119 585), zd P "__init__" 594 (.ref 331), zd P "passes" 602 (.ref 338), zd P "__static_attributes__" 604 (.ref 339), zd P "__doc__" 605 .none] 2), #[]⟩
def o341_0 (P : Params) : Obj := ⟨(.type "type"), none, (.cls ⟨"Negation", [(.ref 164)], [(.ref 341), (.ref 164), (.type "object")], 340, "Negation", true, [], [], false, none, false⟩), #[(some (.ref 318)), none, (some (.str "Negation" 575)), (some (.str "Negation" 583)), (some (.builtin "object.__new__")), (some (.bool true))]⟩
def o342_0 (P : Params) : Obj := ⟨(.type "super"), none, (.fields #[(.ref 341), (.ref 341), (.ref 341)]), #[]⟩
def o343_0 (P : Params) : Obj := ⟨(.type "builtin_function_or_method"), none, (.fields #[(.builtin "object.__init_subclass__"), (.ref 341)]), #[]⟩
def o344_0 (P : Params) : Obj := ⟨(.type "tuple"), none, (.seq #[] 0), #[]⟩
def o345_0 (P : Params) : Obj := ⟨.none, none, (.fields #[]), #[]⟩
def o346_0 (P : Params) : Obj := ⟨(.type "tuple"), none, (.seq #[(.str "condition" 611)] 0), #[]⟩
def o347_0 (P : Params) : Obj := ⟨(.type "tuple"), none, (.seq #[] 0), #[]⟩
def o348_0 (P : Params) : Obj := ⟨.none, none, (.func (zf (tS 17) "written_part" "written_part" 0 [] .none .none .none .none none .none .none 0)), #[]⟩
def o349_0 (P : Params) : Obj := ⟨(.type "code"), none, (.fields #[(.str "written_part" 608), (.str "written_part" 609), (.str "/claim/cut.py" 610), (.int 126 0), (.int 1 0), (.int 0 0), (.int 0 0), (.int 3 0), (.ref 344), (.bool true), (.int 181 0), (.ref 345), .none, (.ref 346), (.ref 347), (.ref 348), (.int 612 0), (.int 126 0), (.str "/claim/cut.py" 613)]), #[]⟩
def o350_0 (P : Params) : Obj := ⟨(.type "function"), none, (.func (zf (tS 17) "written_part" "written_part" 3 [] .none .none .none (.str "surenear.filters.conditions" 281) none (.ref 349) .none 0)), #[]⟩
def o351_0 (P : Params) : Obj := ⟨(.type "tuple"), none, (.seq #[] 0), #[]⟩
def o352_0 (P : Params) : Obj := ⟨.none, none, (.fields #[]), #[]⟩
def o353_0 (P : Params) : Obj := ⟨.none, none, (.func (zf (tS 18) "written" "written" 0 [] .none .none .none .none none .none .none 0)), #[]⟩
def o354_0 (P : Params) : Obj := ⟨(.type "code"), none, (.fields #[(.str "written" 615), (.str "written" 616), (.str "/claim/cut.py" 617), (.int 130 0), (.int 1 0), (.int 0 0), (.int 0 0), (.int 3 0), (.ref 351), (.bool true), (.int 181 0), (.ref 352), .none, .none, .none, (.ref 353), (.int 618 0), (.int 130 0), (.str "/claim/cut.py" 619)]), #[]⟩
def o355_0 (P : Params) : Obj := ⟨(.type "function"), none, (.func (zf (tS 18) "written" "written" 3 [] .none .none .none (.str "surenear.filters.conditions" 281) none (.ref 354) .none 0)), #[]⟩
def o356_0 (P : Params) : Obj := ⟨(.type "tuple"), none, (.seq #[] 0), #[]⟩
def o357_0 (P : Params) : Obj := ⟨.none, none, (.fields #[]), #[]⟩
def o358_0 (P : Params) : Obj := ⟨(.type "tuple"), none, (.seq #[(.str "condition" 626), (.str "worth" 627)] 0), #[]⟩
def o359_0 (P : Params) : Obj := ⟨(.type "tuple"), none, (.seq #[] 0), #[]⟩
def o360_0 (P : Params) : Obj := ⟨.none, none, (.func (zf (tS 20) "satisfies" "satisfies" 0 [] .none .none .none .none none .none .none 0)), #[]⟩
def o361_0 (P : Params) : Obj := ⟨(.type "code"), none, (.fields #[(.str "satisfies" 623), (.str "satisfies" 624), (.str "/claim/cut.py" 625), (.int 146 0), (.int 2 0), (.int 0 0), (.int 0 0), (.int 3 0), (.ref 356), (.bool true), (.int 181 0), (.ref 357), .none, (.ref 358), (.ref 359), (.ref 360), (.int 628 0), (.int 146 0), (.str "/claim/cut.py" 629)]), #[]⟩
def o362_0 (P : Params) : Obj := ⟨(.type "function"), none, (.func (zf (tS 20) "satisfies" "satisfies" 3 [] .none .none .none (.str "surenear.facts.contents" 621) none (.ref 361) .none 0)), #[]⟩
def o363_0 (P : Params) : Obj := ⟨(.type "tuple"), none, (.seq #[] 0), #[]⟩
def o364_0 (P : Params) : Obj := ⟨.none, none, (.fields #[]), #[]⟩
def o365_0 (P : Params) : Obj := ⟨(.type "tuple"), none, (.seq #[(.str "a" 634), (.str "b" 635)] 0), #[]⟩
def o366_0 (P : Params) : Obj := ⟨(.type "tuple"), none, (.seq #[] 0), #[]⟩
def o367_0 (P : Params) : Obj := ⟨.none, none, (.func (zf (tS 21) "same_kind" "same_kind" 0 [] .none .none .none .none none .none .none 0)), #[]⟩
def o368_0 (P : Params) : Obj := ⟨(.type "code"), none, (.fields #[(.str "same_kind" 631), (.str "same_kind" 632), (.str "/claim/cut.py" 633), (.int 152 0), (.int 2 0), (.int 0 0), (.int 0 0), (.int 3 0), (.ref 363), (.bool true), (.int 181 0), (.ref 364), .none, (.ref 365), (.ref 366), (.ref 367), (.int 636 0), (.int 152 0), (.str "/claim/cut.py" 637)]), #[]⟩
def o369_0 (P : Params) : Obj := ⟨(.type "function"), none, (.func (zf (tS 21) "same_kind" "same_kind" 3 [] .none .none .none (.str "surenear.facts.contents" 621) none (.ref 368) .none 0)), #[]⟩
def o370_0 (P : Params) : Obj := ⟨(.type "tuple"), none, (.seq #[] 0), #[]⟩
def o371_0 (P : Params) : Obj := ⟨.none, none, (.fields #[]), #[]⟩
def o372_0 (P : Params) : Obj := ⟨(.type "tuple"), none, (.seq #[(.str "worth" 642), (.str "choices" 643), (.str "choice" 644)] 0), #[]⟩
def o373_0 (P : Params) : Obj := ⟨(.type "tuple"), none, (.seq #[] 0), #[]⟩
def o374_0 (P : Params) : Obj := ⟨.none, none, (.func (zf (tS 22) "is_one_of" "is_one_of" 0 [] .none .none .none .none none .none .none 0)), #[]⟩
def o375_0 (P : Params) : Obj := ⟨(.type "code"), none, (.fields #[(.str "is_one_of" 639), (.str "is_one_of" 640), (.str "/claim/cut.py" 641), (.int 154 0), (.int 2 0), (.int 0 0), (.int 0 0), (.int 3 0), (.ref 370), (.bool true), (.int 181 0), (.ref 371), .none, (.ref 372), (.ref 373), (.ref 374), (.int 645 0), (.int 154 0), (.str "/claim/cut.py" 646)]), #[]⟩
def o376_0 (P : Params) : Obj := ⟨(.type "function"), none, (.func (zf (tS 22) "is_one_of" "is_one_of" 3 [] .none .none .none (.str "surenear.facts.contents" 621) none (.ref 375) .none 0)), #[]⟩
def o377_0 (P : Params) : Obj := ⟨(.type "tuple"), none, (.seq #[] 0), #[]⟩
def o378_0 (P : Params) : Obj := ⟨.none, none, (.fields #[]), #[]⟩
def o379_0 (P : Params) : Obj := ⟨(.type "tuple"), none, (.seq #[(.str "worth" 651)] 0), #[]⟩
def o380_0 (P : Params) : Obj := ⟨(.type "tuple"), none, (.seq #[] 0), #[]⟩
def o381_0 (P : Params) : Obj := ⟨.none, none, (.func (zf (tS 23) "is_integer" "is_integer" 0 [] .none .none .none .none none .none .none 0)), #[]⟩
def o382_0 (P : Params) : Obj := ⟨(.type "code"), none, (.fields #[(.str "is_integer" 648), (.str "is_integer" 649), (.str "/claim/cut.py" 650), (.int 159 0), (.int 1 0), (.int 0 0), (.int 0 0), (.int 3 0), (.ref 377), (.bool true), (.int 181 0), (.ref 378), .none, (.ref 379), (.ref 380), (.ref 381), (.int 652 0), (.int 159 0), (.str "/claim/cut.py" 653)]), #[]⟩
def o383_0 (P : Params) : Obj := ⟨(.type "function"), none, (.func (zf (tS 23) "is_integer" "is_integer" 3 [] .none .none .none (.str "surenear.facts.contents" 621) none (.ref 382) .none 0)), #[]⟩
def o384_0 (P : Params) : Obj := ⟨(.type "tuple"), none, (.seq #[] 0), #[]⟩
def o385_0 (P : Params) : Obj := ⟨.none, none, (.fields #[]), #[]⟩
def o386_0 (P : Params) : Obj := ⟨(.type "tuple"), none, (.seq #[(.str "sign" 658), (.str "low" 659), (.str "high" 660), (.str "worth" 661)] 0), #[]⟩
def o387_0 (P : Params) : Obj := ⟨(.type "tuple"), none, (.seq #[] 0), #[]⟩
def o388_0 (P : Params) : Obj := ⟨.none, none, (.func (zf (tS 24) "range_passes" "range_passes" 0 [] .none .none .none .none none .none .none 0)), #[]⟩
def o389_0 (P : Params) : Obj := ⟨(.type "code"), none, (.fields #[(.str "range_passes" 655), (.str "range_passes" 656), (.str "/claim/cut.py" 657), (.int 161 0), (.int 4 0), (.int 0 0), (.int 0 0), (.int 3 0), (.ref 384), (.bool true), (.int 181 0), (.ref 385), .none, (.ref 386), (.ref 387), (.ref 388), (.int 662 0), (.int 161 0), (.str "/claim/cut.py" 663)]), #[]⟩
def o390_0 (P : Params) : Obj := ⟨(.type "function"), none, (.func (zf (tS 24) "range_passes" "range_passes" 3 [] .none .none .none (.str "surenear.facts.contents" 621) none (.ref 389) .none 0)), #[]⟩
def t2 (P : Params) : BT := (nd (PySem.W.boot_o_0 P) (nd (PySem.W.boot_o_1 P) (nd (o3_1 P) (nd (PySem.W.boot_o_7 P) (nd (o15_0 P) (nd (o31_0 P) (nd (o63_0 P) (nd (o127_0 P) (nd (o255_0 P) lf lf) (nd (o383_0 P) lf lf)) (nd (o191_0 P) (nd (o319_0 P) lf lf) lf)) (nd (o95_0 P) (nd (o159_0 P) (nd (o287_0 P) lf lf) lf) (nd (o223_0 P) (nd (o351_0 P) lf lf) lf))) (nd (o47_0 P) (nd (o79_0 P) (nd (o143_0 P) (nd (o271_0 P) lf lf) lf) (nd (o207_0 P) (nd (o335_0 P) lf lf) lf)) (nd (o111_0 P) (nd (o175_0 P) (nd (o303_0 P) lf lf) lf) (nd (o239_0 P) (nd (o367_0 P) lf lf) lf)))) (nd (o23_0 P) (nd (o39_0 P) (nd (o71_0 P) (nd (o135_0 P) (nd (o263_0 P) lf lf) lf) (nd (o199_0 P) (nd (o327_0 P) lf lf) lf)) (nd (o103_0 P) (nd (o167_0 P) (nd (o295_0 P) lf lf) lf) (nd (o231_0 P) (nd (o359_0 P) lf lf) lf))) (nd (o55_0 P) (nd (o87_0 P) (nd (o151_0 P) (nd (o279_0 P) lf lf) lf) (nd (o215_0 P) (nd (o343_0 P) lf lf) lf)) (nd (o119_0 P) (nd (o183_0 P) (nd (o311_0 P) lf lf) lf) (nd (o247_0 P) (nd (o375_0 P) lf lf) lf))))) (nd (o11_0 P) (nd (o19_0 P) (nd (o35_0 P) (nd (o67_0 P) (nd (o131_0 P) (nd (o259_0 P) lf lf) (nd (o387_0 P) lf lf)) (nd (o195_0 P) (nd (o323_0 P) lf lf) lf)) (nd (o99_0 P) (nd (o163_0 P) (nd (o291_0 P) lf lf) lf) (nd (o227_0 P) (nd (o355_0 P) lf lf) lf))) (nd (o51_0 P) (nd (o83_0 P) (nd (o147_0 P) (nd (o275_0 P) lf lf) lf) (nd (o211_0 P) (nd (o339_0 P) lf lf) lf)) (nd (o115_0 P) (nd (o179_0 P) (nd (o307_0 P) lf lf) lf) (nd (o243_0 P) (nd (o371_0 P) lf lf) lf)))) (nd (o27_0 P) (nd (o43_0 P) (nd (o75_0 P) (nd (o139_0 P) (nd (o267_0 P) lf lf) lf) (nd (o203_0 P) (nd (o331_0 P) lf lf) lf)) (nd (o107_0 P) (nd (o171_0 P) (nd (o299_0 P) lf lf) lf) (nd (o235_0 P) (nd (o363_0 P) lf lf) lf))) (nd (o59_0 P) (nd (o91_0 P) (nd (o155_0 P) (nd (o283_0 P) lf lf) lf) (nd (o219_0 P) (nd (o347_0 P) lf lf) lf)) (nd (o123_0 P) (nd (o187_0 P) (nd (o315_0 P) lf lf) lf) (nd (o251_0 P) (nd (o379_0 P) lf lf) lf)))))) (nd (PySem.W.boot_o_5 P) (nd (PySem.W.boot_o_9 P) (nd (o17_0 P) (nd (o33_0 P) (nd (o65_0 P) (nd (o129_0 P) (nd (o257_0 P) lf lf) (nd (o385_0 P) lf lf)) (nd (o193_0 P) (nd (o321_0 P) lf lf) lf)) (nd (o97_0 P) (nd (o161_0 P) (nd (o289_0 P) lf lf) lf) (nd (o225_0 P) (nd (o353_0 P) lf lf) lf))) (nd (o49_0 P) (nd (o81_0 P) (nd (o145_0 P) (nd (o273_0 P) lf lf) lf) (nd (o209_0 P) (nd (o337_0 P) lf lf) lf)) (nd (o113_0 P) (nd (o177_0 P) (nd (o305_0 P) lf lf) lf) (nd (o241_0 P) (nd (o369_0 P) lf lf) lf)))) (nd (o25_0 P) (nd (o41_0 P) (nd (o73_0 P) (nd (o137_0 P) (nd (o265_0 P) lf lf) lf) (nd (o201_0 P) (nd (o329_0 P) lf lf) lf)) (nd (o105_0 P) (nd (o169_0 P) (nd (o297_0 P) lf lf) lf) (nd (o233_0 P) (nd (o361_0 P) lf lf) lf))) (nd (o57_0 P) (nd (o89_0 P) (nd (o153_0 P) (nd (o281_0 P) lf lf) lf) (nd (o217_0 P) (nd (o345_0 P) lf lf) lf)) (nd (o121_0 P) (nd (o185_0 P) (nd (o313_0 P) lf lf) lf) (nd (o249_0 P) (nd (o377_0 P) lf lf) lf))))) (nd (o13_0 P) (nd (o21_0 P) (nd (o37_0 P) (nd (o69_0 P) (nd (o133_0 P) (nd (o261_0 P) lf lf) (nd (o389_0 P) lf lf)) (nd (o197_0 P) (nd (o325_0 P) lf lf) lf)) (nd (o101_0 P) (nd (o165_0 P) (nd (o293_0 P) lf lf) lf) (nd (o229_0 P) (nd (o357_0 P) lf lf) lf))) (nd (o53_0 P) (nd (o85_0 P) (nd (o149_0 P) (nd (o277_0 P) lf lf) lf) (nd (o213_0 P) (nd (o341_0 P) lf lf) lf)) (nd (o117_0 P) (nd (o181_0 P) (nd (o309_0 P) lf lf) lf) (nd (o245_0 P) (nd (o373_0 P) lf lf) lf)))) (nd (o29_0 P) (nd (o45_0 P) (nd (o77_0 P) (nd (o141_0 P) (nd (o269_0 P) lf lf) lf) (nd (o205_0 P) (nd (o333_0 P) lf lf) lf)) (nd (o109_0 P) (nd (o173_0 P) (nd (o301_0 P) lf lf) lf) (nd (o237_0 P) (nd (o365_0 P) lf lf) lf))) (nd (o61_0 P) (nd (o93_0 P) (nd (o157_0 P) (nd (o285_0 P) lf lf) lf) (nd (o221_0 P) (nd (o349_0 P) lf lf) lf)) (nd (o125_0 P) (nd (o189_0 P) (nd (o317_0 P) lf lf) lf) (nd (o253_0 P) (nd (o381_0 P) lf lf) lf))))))) (nd (PySem.W.boot_o_2 P) (nd (PySem.W.boot_o_4 P) (nd (PySem.W.boot_o_8 P) (nd (o16_0 P) (nd (o32_0 P) (nd (o64_0 P) (nd (o128_0 P) (nd (o256_0 P) lf lf) (nd (o384_0 P) lf lf)) (nd (o192_0 P) (nd (o320_0 P) lf lf) lf)) (nd (o96_0 P) (nd (o160_0 P) (nd (o288_0 P) lf lf) lf) (nd (o224_0 P) (nd (o352_0 P) lf lf) lf))) (nd (o48_0 P) (nd (o80_0 P) (nd (o144_0 P) (nd (o272_0 P) lf lf) lf) (nd (o208_0 P) (nd (o336_0 P) lf lf) lf)) (nd (o112_0 P) (nd (o176_0 P) (nd (o304_0 P) lf lf) lf) (nd (o240_0 P) (nd (o368_0 P) lf lf) lf)))) (nd (o24_0 P) (nd (o40_0 P) (nd (o72_0 P) (nd (o136_0 P) (nd (o264_0 P) lf lf) lf) (nd (o200_0 P) (nd (o328_0 P) lf lf) lf)) (nd (o104_0 P) (nd (o168_0 P) (nd (o296_0 P) lf lf) lf) (nd (o232_0 P) (nd (o360_0 P) lf lf) lf))) (nd (o56_0 P) (nd (o88_0 P) (nd (o152_0 P) (nd (o280_0 P) lf lf) lf) (nd (o216_0 P) (nd (o344_0 P) lf lf) lf)) (nd (o120_0 P) (nd (o184_0 P) (nd (o312_0 P) lf lf) lf) (nd (o248_0 P) (nd (o376_0 P) lf lf) lf))))) (nd (o12_2 P) (nd (o20_0 P) (nd (o36_0 P) (nd (o68_0 P) (nd (o132_0 P) (nd (o260_0 P) lf lf) (nd (o388_0 P) lf lf)) (nd (o196_0 P) (nd (o324_0 P) lf lf) lf)) (nd (o100_0 P) (nd (o164_1 P) (nd (o292_0 P) lf lf) lf) (nd (o228_0 P) (nd (o356_0 P) lf lf) lf))) (nd (o52_0 P) (nd (o84_0 P) (nd (o148_0 P) (nd (o276_0 P) lf lf) lf) (nd (o212_0 P) (nd (o340_0 P) lf lf) lf)) (nd (o116_0 P) (nd (o180_0 P) (nd (o308_0 P) lf lf) lf) (nd (o244_0 P) (nd (o372_0 P) lf lf) lf)))) (nd (o28_0 P) (nd (o44_0 P) (nd (o76_0 P) (nd (o140_0 P) (nd (o268_0 P) lf lf) lf) (nd (o204_0 P) (nd (o332_0 P) lf lf) lf)) (nd (o108_0 P) (nd (o172_0 P) (nd (o300_0 P) lf lf) lf) (nd (o236_0 P) (nd (o364_0 P) lf lf) lf))) (nd (o60_0 P) (nd (o92_0 P) (nd (o156_0 P) (nd (o284_0 P) lf lf) lf) (nd (o220_0 P) (nd (o348_0 P) lf lf) lf)) (nd (o124_0 P) (nd (o188_0 P) (nd (o316_0 P) lf lf) lf) (nd (o252_0 P) (nd (o380_0 P) lf lf) lf)))))) (nd (PySem.W.boot_o_6 P) (nd (PySem.W.boot_o_10 P) (nd (o18_0 P) (nd (o34_0 P) (nd (o66_0 P) (nd (o130_0 P) (nd (o258_0 P) lf lf) (nd (o386_0 P) lf lf)) (nd (o194_0 P) (nd (o322_0 P) lf lf) lf)) (nd (o98_0 P) (nd (o162_0 P) (nd (o290_0 P) lf lf) lf) (nd (o226_0 P) (nd (o354_0 P) lf lf) lf))) (nd (o50_0 P) (nd (o82_0 P) (nd (o146_0 P) (nd (o274_0 P) lf lf) lf) (nd (o210_0 P) (nd (o338_0 P) lf lf) lf)) (nd (o114_0 P) (nd (o178_0 P) (nd (o306_0 P) lf lf) lf) (nd (o242_0 P) (nd (o370_0 P) lf lf) lf)))) (nd (o26_0 P) (nd (o42_0 P) (nd (o74_0 P) (nd (o138_0 P) (nd (o266_0 P) lf lf) lf) (nd (o202_0 P) (nd (o330_0 P) lf lf) lf)) (nd (o106_0 P) (nd (o170_0 P) (nd (o298_0 P) lf lf) lf) (nd (o234_0 P) (nd (o362_0 P) lf lf) lf))) (nd (o58_0 P) (nd (o90_0 P) (nd (o154_0 P) (nd (o282_0 P) lf lf) lf) (nd (o218_0 P) (nd (o346_0 P) lf lf) lf)) (nd (o122_0 P) (nd (o186_0 P) (nd (o314_0 P) lf lf) lf) (nd (o250_0 P) (nd (o378_0 P) lf lf) lf))))) (nd (o14_0 P) (nd (o22_0 P) (nd (o38_0 P) (nd (o70_0 P) (nd (o134_0 P) (nd (o262_0 P) lf lf) (nd (o390_0 P) lf lf)) (nd (o198_0 P) (nd (o326_0 P) lf lf) lf)) (nd (o102_0 P) (nd (o166_0 P) (nd (o294_0 P) lf lf) lf) (nd (o230_0 P) (nd (o358_0 P) lf lf) lf))) (nd (o54_0 P) (nd (o86_0 P) (nd (o150_0 P) (nd (o278_0 P) lf lf) lf) (nd (o214_0 P) (nd (o342_0 P) lf lf) lf)) (nd (o118_0 P) (nd (o182_0 P) (nd (o310_0 P) lf lf) lf) (nd (o246_0 P) (nd (o374_0 P) lf lf) lf)))) (nd (o30_0 P) (nd (o46_0 P) (nd (o78_0 P) (nd (o142_0 P) (nd (o270_0 P) lf lf) lf) (nd (o206_0 P) (nd (o334_0 P) lf lf) lf)) (nd (o110_0 P) (nd (o174_0 P) (nd (o302_0 P) lf lf) lf) (nd (o238_0 P) (nd (o366_0 P) lf lf) lf))) (nd (o62_0 P) (nd (o94_0 P) (nd (o158_0 P) (nd (o286_0 P) lf lf) lf) (nd (o222_0 P) (nd (o350_0 P) lf lf) lf)) (nd (o126_0 P) (nd (o190_0 P) (nd (o318_0 P) lf lf) lf) (nd (o254_0 P) (nd (o382_0 P) lf lf) lf))))))))
def s2 (w : World) (os : OsState) : SharedT := ⟨t2 w.params, 391, { }, #[], ⟨0, 0, 0, 0⟩, 665, os⟩
abbrev l2 : List Stmt := (bE.drop 15).take 10
theorem seg2 (w : World) (os : OsState) : segRunT treeTable pr w 11 annV 1 773 (s1 w os) (piecesOf l2 env cE ⟨103, 0, 110, 17⟩ fB) = some (.next, s2 w os, cE, ⟨161, 0, 172, 24⟩) := seg_q (by kernel_rfl)
def o3_2 (P : Params) : Obj := ⟨(.type "dict"), none, (.dict (List.toArray (zd P "__name__" 165 (.str "surenear.facts.contents" 621) :: zd P "__doc__" 166 .none :: zd P "__package__" 167 .none :: zd P "__loader__" 168 (.builtin "__main__.__loader__#opaque") :: zd P "__spec__" 169 .none :: zd P "__annotations__" 170 (.ref 6) :: zd P "__builtins__" 171 (.ref 4) :: zd P "__file__" 173 (.str "/claim/cut.py" 172) :: zd P "__cached__" 174 .none :: zd P "_wall" 193 (.ref 21) :: zd P "Fact" 270 (.ref 80) :: zd P "same_value" 280 (.ref 91) :: zd P "compare" 291 (.ref 98) :: zd P "written_value" 298 (.ref 105) :: zd P "same_values" 308 (.ref 112) :: zd P "Condition" 375 (.ref 164) :: zd P "Every" 399 (.ref 185) :: zd P "Has" 432 (.ref 211) :: zd P "Compare" 469 (.ref 237) :: zd P "OneOf" 504 (.ref 263) :: zd P "Both" 539 (.ref 289) :: zd P "Either" 574 (.ref 315) :: zd P "Negation" 607 (.ref 341) :: zd P "written_part" 614 (.ref 350) :: zd P "written" 620 (.ref 355) :: zd P "satisfies" 630 (.ref 362) :: zd P "same_kind" 638 (.ref 369) :: zd P "is_one_of" 647 (.ref 376) :: zd P "is_integer" 654 (.ref 383) :: zd P "range_passes" 664 (.ref 390) :: zd P "OPPOSITES" 683 (.ref 391) :: [])) 31), #[]⟩
def o391_0 (P : Params) : Obj := ⟨(.type "dict"), none, (.dict #[zd P "=" 665 (.str "!=" 666), zd P "!=" 667 (.str "=" 668), zd P "<" 669 (.str ">=" 670), zd P "<=" 671 (.str ">" 672), zd P ">" 673 (.str "<=" 674), zd P ">=" 675 (.str "<" 676)] 6), #[]⟩
def t3 (P : Params) : BT := (nd (PySem.W.boot_o_0 P) (nd (PySem.W.boot_o_1 P) (nd (o3_2 P) (nd (PySem.W.boot_o_7 P) (nd (o15_0 P) (nd (o31_0 P) (nd (o63_0 P) (nd (o127_0 P) (nd (o255_0 P) lf lf) (nd (o383_0 P) lf lf)) (nd (o191_0 P) (nd (o319_0 P) lf lf) lf)) (nd (o95_0 P) (nd (o159_0 P) (nd (o287_0 P) lf lf) lf) (nd (o223_0 P) (nd (o351_0 P) lf lf) lf))) (nd (o47_0 P) (nd (o79_0 P) (nd (o143_0 P) (nd (o271_0 P) lf lf) lf) (nd (o207_0 P) (nd (o335_0 P) lf lf) lf)) (nd (o111_0 P) (nd (o175_0 P) (nd (o303_0 P) lf lf) lf) (nd (o239_0 P) (nd (o367_0 P) lf lf) lf)))) (nd (o23_0 P) (nd (o39_0 P) (nd (o71_0 P) (nd (o135_0 P) (nd (o263_0 P) lf lf) (nd (o391_0 P) lf lf)) (nd (o199_0 P) (nd (o327_0 P) lf lf) lf)) (nd (o103_0 P) (nd (o167_0 P) (nd (o295_0 P) lf lf) lf) (nd (o231_0 P) (nd (o359_0 P) lf lf) lf))) (nd (o55_0 P) (nd (o87_0 P) (nd (o151_0 P) (nd (o279_0 P) lf lf) lf) (nd (o215_0 P) (nd (o343_0 P) lf lf) lf)) (nd (o119_0 P) (nd (o183_0 P) (nd (o311_0 P) lf lf) lf) (nd (o247_0 P) (nd (o375_0 P) lf lf) lf))))) (nd (o11_0 P) (nd (o19_0 P) (nd (o35_0 P) (nd (o67_0 P) (nd (o131_0 P) (nd (o259_0 P) lf lf) (nd (o387_0 P) lf lf)) (nd (o195_0 P) (nd (o323_0 P) lf lf) lf)) (nd (o99_0 P) (nd (o163_0 P) (nd (o291_0 P) lf lf) lf) (nd (o227_0 P) (nd (o355_0 P) lf lf) lf))) (nd (o51_0 P) (nd (o83_0 P) (nd (o147_0 P) (nd (o275_0 P) lf lf) lf) (nd (o211_0 P) (nd (o339_0 P) lf lf) lf)) (nd (o115_0 P) (nd (o179_0 P) (nd (o307_0 P) lf lf) lf) (nd (o243_0 P) (nd (o371_0 P) lf lf) lf)))) (nd (o27_0 P) (nd (o43_0 P) (nd (o75_0 P) (nd (o139_0 P) (nd (o267_0 P) lf lf) lf) (nd (o203_0 P) (nd (o331_0 P) lf lf) lf)) (nd (o107_0 P) (nd (o171_0 P) (nd (o299_0 P) lf lf) lf) (nd (o235_0 P) (nd (o363_0 P) lf lf) lf))) (nd (o59_0 P) (nd (o91_0 P) (nd (o155_0 P) (nd (o283_0 P) lf lf) lf) (nd (o219_0 P) (nd (o347_0 P) lf lf) lf)) (nd (o123_0 P) (nd (o187_0 P) (nd (o315_0 P) lf lf) lf) (nd (o251_0 P) (nd (o379_0 P) lf lf) lf)))))) (nd (PySem.W.boot_o_5 P) (nd (PySem.W.boot_o_9 P) (nd (o17_0 P) (nd (o33_0 P) (nd (o65_0 P) (nd (o129_0 P) (nd (o257_0 P) lf lf) (nd (o385_0 P) lf lf)) (nd (o193_0 P) (nd (o321_0 P) lf lf) lf)) (nd (o97_0 P) (nd (o161_0 P) (nd (o289_0 P) lf lf) lf) (nd (o225_0 P) (nd (o353_0 P) lf lf) lf))) (nd (o49_0 P) (nd (o81_0 P) (nd (o145_0 P) (nd (o273_0 P) lf lf) lf) (nd (o209_0 P) (nd (o337_0 P) lf lf) lf)) (nd (o113_0 P) (nd (o177_0 P) (nd (o305_0 P) lf lf) lf) (nd (o241_0 P) (nd (o369_0 P) lf lf) lf)))) (nd (o25_0 P) (nd (o41_0 P) (nd (o73_0 P) (nd (o137_0 P) (nd (o265_0 P) lf lf) lf) (nd (o201_0 P) (nd (o329_0 P) lf lf) lf)) (nd (o105_0 P) (nd (o169_0 P) (nd (o297_0 P) lf lf) lf) (nd (o233_0 P) (nd (o361_0 P) lf lf) lf))) (nd (o57_0 P) (nd (o89_0 P) (nd (o153_0 P) (nd (o281_0 P) lf lf) lf) (nd (o217_0 P) (nd (o345_0 P) lf lf) lf)) (nd (o121_0 P) (nd (o185_0 P) (nd (o313_0 P) lf lf) lf) (nd (o249_0 P) (nd (o377_0 P) lf lf) lf))))) (nd (o13_0 P) (nd (o21_0 P) (nd (o37_0 P) (nd (o69_0 P) (nd (o133_0 P) (nd (o261_0 P) lf lf) (nd (o389_0 P) lf lf)) (nd (o197_0 P) (nd (o325_0 P) lf lf) lf)) (nd (o101_0 P) (nd (o165_0 P) (nd (o293_0 P) lf lf) lf) (nd (o229_0 P) (nd (o357_0 P) lf lf) lf))) (nd (o53_0 P) (nd (o85_0 P) (nd (o149_0 P) (nd (o277_0 P) lf lf) lf) (nd (o213_0 P) (nd (o341_0 P) lf lf) lf)) (nd (o117_0 P) (nd (o181_0 P) (nd (o309_0 P) lf lf) lf) (nd (o245_0 P) (nd (o373_0 P) lf lf) lf)))) (nd (o29_0 P) (nd (o45_0 P) (nd (o77_0 P) (nd (o141_0 P) (nd (o269_0 P) lf lf) lf) (nd (o205_0 P) (nd (o333_0 P) lf lf) lf)) (nd (o109_0 P) (nd (o173_0 P) (nd (o301_0 P) lf lf) lf) (nd (o237_0 P) (nd (o365_0 P) lf lf) lf))) (nd (o61_0 P) (nd (o93_0 P) (nd (o157_0 P) (nd (o285_0 P) lf lf) lf) (nd (o221_0 P) (nd (o349_0 P) lf lf) lf)) (nd (o125_0 P) (nd (o189_0 P) (nd (o317_0 P) lf lf) lf) (nd (o253_0 P) (nd (o381_0 P) lf lf) lf))))))) (nd (PySem.W.boot_o_2 P) (nd (PySem.W.boot_o_4 P) (nd (PySem.W.boot_o_8 P) (nd (o16_0 P) (nd (o32_0 P) (nd (o64_0 P) (nd (o128_0 P) (nd (o256_0 P) lf lf) (nd (o384_0 P) lf lf)) (nd (o192_0 P) (nd (o320_0 P) lf lf) lf)) (nd (o96_0 P) (nd (o160_0 P) (nd (o288_0 P) lf lf) lf) (nd (o224_0 P) (nd (o352_0 P) lf lf) lf))) (nd (o48_0 P) (nd (o80_0 P) (nd (o144_0 P) (nd (o272_0 P) lf lf) lf) (nd (o208_0 P) (nd (o336_0 P) lf lf) lf)) (nd (o112_0 P) (nd (o176_0 P) (nd (o304_0 P) lf lf) lf) (nd (o240_0 P) (nd (o368_0 P) lf lf) lf)))) (nd (o24_0 P) (nd (o40_0 P) (nd (o72_0 P) (nd (o136_0 P) (nd (o264_0 P) lf lf) lf) (nd (o200_0 P) (nd (o328_0 P) lf lf) lf)) (nd (o104_0 P) (nd (o168_0 P) (nd (o296_0 P) lf lf) lf) (nd (o232_0 P) (nd (o360_0 P) lf lf) lf))) (nd (o56_0 P) (nd (o88_0 P) (nd (o152_0 P) (nd (o280_0 P) lf lf) lf) (nd (o216_0 P) (nd (o344_0 P) lf lf) lf)) (nd (o120_0 P) (nd (o184_0 P) (nd (o312_0 P) lf lf) lf) (nd (o248_0 P) (nd (o376_0 P) lf lf) lf))))) (nd (o12_2 P) (nd (o20_0 P) (nd (o36_0 P) (nd (o68_0 P) (nd (o132_0 P) (nd (o260_0 P) lf lf) (nd (o388_0 P) lf lf)) (nd (o196_0 P) (nd (o324_0 P) lf lf) lf)) (nd (o100_0 P) (nd (o164_1 P) (nd (o292_0 P) lf lf) lf) (nd (o228_0 P) (nd (o356_0 P) lf lf) lf))) (nd (o52_0 P) (nd (o84_0 P) (nd (o148_0 P) (nd (o276_0 P) lf lf) lf) (nd (o212_0 P) (nd (o340_0 P) lf lf) lf)) (nd (o116_0 P) (nd (o180_0 P) (nd (o308_0 P) lf lf) lf) (nd (o244_0 P) (nd (o372_0 P) lf lf) lf)))) (nd (o28_0 P) (nd (o44_0 P) (nd (o76_0 P) (nd (o140_0 P) (nd (o268_0 P) lf lf) lf) (nd (o204_0 P) (nd (o332_0 P) lf lf) lf)) (nd (o108_0 P) (nd (o172_0 P) (nd (o300_0 P) lf lf) lf) (nd (o236_0 P) (nd (o364_0 P) lf lf) lf))) (nd (o60_0 P) (nd (o92_0 P) (nd (o156_0 P) (nd (o284_0 P) lf lf) lf) (nd (o220_0 P) (nd (o348_0 P) lf lf) lf)) (nd (o124_0 P) (nd (o188_0 P) (nd (o316_0 P) lf lf) lf) (nd (o252_0 P) (nd (o380_0 P) lf lf) lf)))))) (nd (PySem.W.boot_o_6 P) (nd (PySem.W.boot_o_10 P) (nd (o18_0 P) (nd (o34_0 P) (nd (o66_0 P) (nd (o130_0 P) (nd (o258_0 P) lf lf) (nd (o386_0 P) lf lf)) (nd (o194_0 P) (nd (o322_0 P) lf lf) lf)) (nd (o98_0 P) (nd (o162_0 P) (nd (o290_0 P) lf lf) lf) (nd (o226_0 P) (nd (o354_0 P) lf lf) lf))) (nd (o50_0 P) (nd (o82_0 P) (nd (o146_0 P) (nd (o274_0 P) lf lf) lf) (nd (o210_0 P) (nd (o338_0 P) lf lf) lf)) (nd (o114_0 P) (nd (o178_0 P) (nd (o306_0 P) lf lf) lf) (nd (o242_0 P) (nd (o370_0 P) lf lf) lf)))) (nd (o26_0 P) (nd (o42_0 P) (nd (o74_0 P) (nd (o138_0 P) (nd (o266_0 P) lf lf) lf) (nd (o202_0 P) (nd (o330_0 P) lf lf) lf)) (nd (o106_0 P) (nd (o170_0 P) (nd (o298_0 P) lf lf) lf) (nd (o234_0 P) (nd (o362_0 P) lf lf) lf))) (nd (o58_0 P) (nd (o90_0 P) (nd (o154_0 P) (nd (o282_0 P) lf lf) lf) (nd (o218_0 P) (nd (o346_0 P) lf lf) lf)) (nd (o122_0 P) (nd (o186_0 P) (nd (o314_0 P) lf lf) lf) (nd (o250_0 P) (nd (o378_0 P) lf lf) lf))))) (nd (o14_0 P) (nd (o22_0 P) (nd (o38_0 P) (nd (o70_0 P) (nd (o134_0 P) (nd (o262_0 P) lf lf) (nd (o390_0 P) lf lf)) (nd (o198_0 P) (nd (o326_0 P) lf lf) lf)) (nd (o102_0 P) (nd (o166_0 P) (nd (o294_0 P) lf lf) lf) (nd (o230_0 P) (nd (o358_0 P) lf lf) lf))) (nd (o54_0 P) (nd (o86_0 P) (nd (o150_0 P) (nd (o278_0 P) lf lf) lf) (nd (o214_0 P) (nd (o342_0 P) lf lf) lf)) (nd (o118_0 P) (nd (o182_0 P) (nd (o310_0 P) lf lf) lf) (nd (o246_0 P) (nd (o374_0 P) lf lf) lf)))) (nd (o30_0 P) (nd (o46_0 P) (nd (o78_0 P) (nd (o142_0 P) (nd (o270_0 P) lf lf) lf) (nd (o206_0 P) (nd (o334_0 P) lf lf) lf)) (nd (o110_0 P) (nd (o174_0 P) (nd (o302_0 P) lf lf) lf) (nd (o238_0 P) (nd (o366_0 P) lf lf) lf))) (nd (o62_0 P) (nd (o94_0 P) (nd (o158_0 P) (nd (o286_0 P) lf lf) lf) (nd (o222_0 P) (nd (o350_0 P) lf lf) lf)) (nd (o126_0 P) (nd (o190_0 P) (nd (o318_0 P) lf lf) lf) (nd (o254_0 P) (nd (o382_0 P) lf lf) lf))))))))
def s3 (w : World) (os : OsState) : SharedT := ⟨t3 w.params, 392, { }, #[], ⟨0, 0, 0, 0⟩, 684, os⟩
abbrev l3 : List Stmt := (bE.drop 25).take 1
theorem seg3f (w : World) : (fun w : World => ∀ os : OsState, segRunT treeTable pr w 11 annV 1 101 (s2 w os) (piecesOf l3 env cE ⟨161, 0, 172, 24⟩ fB) = some (.next, s3 w os, cE, ⟨173, 0, 173, 9⟩)) (w.withFollow "special-get-raises" false) := fun os => seg_q (by kernel_rfl)
theorem seg3t (w : World) : (fun w : World => ∀ os : OsState, segRunT treeTable pr w 11 annV 1 101 (s2 w os) (piecesOf l3 env cE ⟨161, 0, 172, 24⟩ fB) = some (.next, s3 w os, cE, ⟨173, 0, 173, 9⟩)) (w.withFollow "special-get-raises" true) := fun os => seg_q (by kernel_rfl)
theorem seg3 (w : World) (os : OsState) : segRunT treeTable pr w 11 annV 1 101 (s2 w os) (piecesOf l3 env cE ⟨161, 0, 172, 24⟩ fB) = some (.next, s3 w os, cE, ⟨173, 0, 173, 9⟩) := byRow2 "special-get-raises" (P := fun w : World => ∀ os : OsState, segRunT treeTable pr w 11 annV 1 101 (s2 w os) (piecesOf l3 env cE ⟨161, 0, 172, 24⟩ fB) = some (.next, s3 w os, cE, ⟨173, 0, 173, 9⟩)) seg3f seg3t w os
def o3_3 (P : Params) : Obj := ⟨(.type "dict"), none, (.dict (List.toArray (zd P "__name__" 165 (.str "surenear.facts.vectors" 966) :: zd P "__doc__" 166 .none :: zd P "__package__" 167 .none :: zd P "__loader__" 168 (.builtin "__main__.__loader__#opaque") :: zd P "__spec__" 169 .none :: zd P "__annotations__" 170 (.ref 6) :: zd P "__builtins__" 171 (.ref 4) :: zd P "__file__" 173 (.str "/claim/cut.py" 172) :: zd P "__cached__" 174 .none :: zd P "_wall" 193 (.ref 21) :: zd P "Fact" 270 (.ref 80) :: zd P "same_value" 280 (.ref 91) :: zd P "compare" 291 (.ref 98) :: zd P "written_value" 298 (.ref 105) :: zd P "same_values" 308 (.ref 112) :: zd P "Condition" 375 (.ref 164) :: zd P "Every" 399 (.ref 185) :: zd P "Has" 432 (.ref 211) :: zd P "Compare" 469 (.ref 237) :: zd P "OneOf" 504 (.ref 263) :: zd P "Both" 539 (.ref 289) :: zd P "Either" 574 (.ref 315) :: zd P "Negation" 607 (.ref 341) :: zd P "written_part" 614 (.ref 350) :: zd P "written" 620 (.ref 355) :: zd P "satisfies" 630 (.ref 362) :: zd P "same_kind" 638 (.ref 369) :: zd P "is_one_of" 647 (.ref 376) :: zd P "is_integer" 654 (.ref 383) :: zd P "range_passes" 664 (.ref 390) :: zd P "OPPOSITES" 683 (.ref 391) :: zd P "is_about" 691 (.ref 398) :: zd P "FieldFact" 736 (.ref 429) :: zd P "Range" 798 (.ref 475) :: zd P "Values" 858 (.ref 521) :: zd P "Counts" 914 (.ref 566) :: zd P "Names" 965 (.ref 606) :: zd P "Part" 1025 (.ref 647) :: [])) 38), #[]⟩
def o12_3 (P : Params) : Obj := ⟨.none, none, (.fields (List.toArray ((.int 1 0) :: (.int 0 0) :: (.ref 20) :: (.int 5 0) :: (.int 0 0) :: (.ref 27) :: (.int 28 0) :: (.int 0 0) :: (.ref 90) :: (.int 31 0) :: (.int 0 0) :: (.ref 97) :: (.int 43 0) :: (.int 0 0) :: (.ref 104) :: (.int 49 0) :: (.int 0 0) :: (.ref 111) :: (.int 56 0) :: (.int 0 0) :: (.ref 118) :: (.int 75 0) :: (.int 0 0) :: (.ref 174) :: (.int 79 0) :: (.int 0 0) :: (.ref 193) :: (.int 86 0) :: (.int 0 0) :: (.ref 219) :: (.int 95 0) :: (.int 0 0) :: (.ref 245) :: (.int 103 0) :: (.int 0 0) :: (.ref 271) :: (.int 111 0) :: (.int 0 0) :: (.ref 297) :: (.int 119 0) :: (.int 0 0) :: (.ref 323) :: (.int 126 0) :: (.int 0 0) :: (.ref 349) :: (.int 130 0) :: (.int 0 0) :: (.ref 354) :: (.int 146 0) :: (.int 0 0) :: (.ref 361) :: (.int 152 0) :: (.int 0 0) :: (.ref 368) :: (.int 154 0) :: (.int 0 0) :: (.ref 375) :: (.int 159 0) :: (.int 0 0) :: (.ref 382) :: (.int 161 0) :: (.int 0 0) :: (.ref 389) :: (.int 174 0) :: (.int 0 0) :: (.ref 397) :: (.int 176 0) :: (.int 0 0) :: (.ref 404) :: (.int 194 0) :: (.int 0 0) :: (.ref 437) :: (.int 220 0) :: (.int 0 0) :: (.ref 483) :: (.int 240 0) :: (.int 0 0) :: (.ref 529) :: (.int 256 0) :: (.int 0 0) :: (.ref 574) :: (.int 271 0) :: (.int 0 0) :: (.ref 614) :: []))), #[]⟩
def o80_1 (P : Params) : Obj := ⟨(.type "type"), none, (.cls ⟨"Fact", [(.type "object")], [(.ref 80), (.type "object")], 79, "Fact", true, [], [(.ref 429), (.ref 566), (.ref 606)], false, none, false⟩), #[none, none, (some (.str "Fact" 196)), (some (.str "Fact" 204)), (some (.builtin "object.__new__")), (some (.bool true))]⟩
def o392_0 (P : Params) : Obj := ⟨(.type "tuple"), none, (.seq #[] 0), #[]⟩
def o393_0 (P : Params) : Obj := ⟨.none, none, (.fields #[]), #[]⟩
def o394_0 (P : Params) : Obj := ⟨(.type "tuple"), none, (.seq #[(.str "condition" 687), (.str "field" 688)] 0), #[]⟩
def o395_0 (P : Params) : Obj := ⟨(.type "tuple"), none, (.seq #[] 0), #[]⟩
def o396_0 (P : Params) : Obj := ⟨.none, none, (.func (zf (tS 26) "is_about" "is_about" 0 [] .none .none .none .none none .none .none 0)), #[]⟩
def o397_0 (P : Params) : Obj := ⟨(.type "code"), none, (.fields #[(.str "is_about" 684), (.str "is_about" 685), (.str "/claim/cut.py" 686), (.int 174 0), (.int 2 0), (.int 0 0), (.int 0 0), (.int 3 0), (.ref 392), (.bool true), (.int 181 0), (.ref 393), .none, (.ref 394), (.ref 395), (.ref 396), (.int 689 0), (.int 174 0), (.str "/claim/cut.py" 690)]), #[]⟩
def o398_0 (P : Params) : Obj := ⟨(.type "function"), none, (.func (zf (tS 26) "is_about" "is_about" 3 [] .none .none .none (.str "surenear.facts.contents" 621) none (.ref 397) .none 0)), #[]⟩
def o399_0 (P : Params) : Obj := ⟨(.type "tuple"), none, (.seq #[(.ref 80)] 0), #[]⟩
def o400_0 (P : Params) : Obj := ⟨(.type "builtin_function_or_method"), none, (.fields #[(.builtin "type.__prepare__"), (.type "type")]), #[]⟩
def o401_0 (P : Params) : Obj := ⟨(.type "dict"), none, (.dict #[zd P "__module__" 699 (.str "surenear.facts.contents" 621), zd P "__qualname__" 701 (.str "FieldFact" 700), zd P "__firstlineno__" 703 (.int 176 702), zd P "__init__" 712 (.ref 412), zd P "outcomes_of_present" 720 (.ref 419), zd P "field_outcomes" 730 (.ref 426), zd P "__static_attributes__" 733 (.ref 427)] 7), #[]⟩
def o402_0 (P : Params) : Obj := ⟨(.type "tuple"), none, (.seq #[] 0), #[]⟩
def o403_0 (P : Params) : Obj := ⟨.none, none, (.fields #[(.int 178 0), (.int 4 0), (.ref 411), (.int 182 0), (.int 4 0), (.ref 418), (.int 185 0), (.int 4 0), (.ref 425)]), #[]⟩
def o404_0 (P : Params) : Obj := ⟨(.type "code"), none, (.fields #[(.str "FieldFact" 694), (.str "FieldFact" 695), (.str "/claim/cut.py" 696), (.int 176 0), (.int 0 0), (.int 0 0), (.int 0 0), (.int 0 0), (.ref 402), (.bool false), (.int 181 0), (.ref 403), .none, .none, .none, .none, (.int 697 0), (.int 176 0), (.str "/claim/cut.py" 698)]), #[]⟩
def o405_0 (P : Params) : Obj := ⟨(.type "frame"), none, .plain, #[(some (.ref 404)), (some (.ref 3)), (some (.ref 401)), none, (some (.str "surenear.facts.contents" 621)), none, (some (.ref 0))]⟩
def o406_0 (P : Params) : Obj := ⟨(.type "tuple"), none, (.seq #[] 0), #[]⟩
def o407_0 (P : Params) : Obj := ⟨.none, none, (.fields #[]), #[]⟩
def o408_0 (P : Params) : Obj := ⟨(.type "tuple"), none, (.seq #[(.str "self" 707), (.str "field" 708), (.str "lack" 709)] 0), #[]⟩
def o409_0 (P : Params) : Obj := ⟨(.type "tuple"), none, (.seq #[] 0), #[]⟩
def o410_0 (P : Params) : Obj := ⟨.none, none, (.func (zf (mS 27 0) "__init__" "FieldFact.__init__" 0 [] .none .none .none .none none .none .none 0)), #[]⟩
def o411_0 (P : Params) : Obj := ⟨(.type "code"), none, (.fields #[(.str "__init__" 704), (.str "FieldFact.__init__" 705), (.str "/claim/cut.py" 706), (.int 178 0), (.int 3 0), (.int 0 0), (.int 0 0), (.int 3 0), (.ref 406), (.bool true), (.int 181 0), (.ref 407), .none, (.ref 408), (.ref 409), (.ref 410), (.int 710 0), (.int 178 0), (.str "/claim/cut.py" 711)]), #[]⟩
def o412_0 (P : Params) : Obj := ⟨(.type "function"), none, (.func (zf (mS 27 0) "__init__" "FieldFact.__init__" 3 [] .none .none .none (.str "surenear.facts.contents" 621) none (.ref 411) .none 0)), #[]⟩
def o413_0 (P : Params) : Obj := ⟨(.type "tuple"), none, (.seq #[] 0), #[]⟩
def o414_0 (P : Params) : Obj := ⟨.none, none, (.fields #[]), #[]⟩
def o415_0 (P : Params) : Obj := ⟨(.type "tuple"), none, (.seq #[(.str "self" 716), (.str "condition" 717)] 0), #[]⟩
def o416_0 (P : Params) : Obj := ⟨(.type "tuple"), none, (.seq #[] 0), #[]⟩
def o417_0 (P : Params) : Obj := ⟨.none, none, (.func (zf (mS 27 1) "outcomes_of_present" "FieldFact.outcomes_of_present" 0 [] .none .none .none .none none .none .none 0)), #[]⟩
def o418_0 (P : Params) : Obj := ⟨(.type "code"), none, (.fields #[(.str "outcomes_of_present" 713), (.str "FieldFact.outcomes_of_present" 714), (.str "/claim/cut.py" 715), (.int 182 0), (.int 2 0), (.int 0 0), (.int 0 0), (.int 3 0), (.ref 413), (.bool true), (.int 181 0), (.ref 414), .none, (.ref 415), (.ref 416), (.ref 417), (.int 718 0), (.int 182 0), (.str "/claim/cut.py" 719)]), #[]⟩
def o419_0 (P : Params) : Obj := ⟨(.type "function"), none, (.func (zf (mS 27 1) "outcomes_of_present" "FieldFact.outcomes_of_present" 3 [] .none .none .none (.str "surenear.facts.contents" 621) none (.ref 418) .none 0)), #[]⟩
def o420_0 (P : Params) : Obj := ⟨(.type "tuple"), none, (.seq #[] 0), #[]⟩
def o421_0 (P : Params) : Obj := ⟨.none, none, (.fields #[]), #[]⟩
def o422_0 (P : Params) : Obj := ⟨(.type "tuple"), none, (.seq #[(.str "self" 724), (.str "condition" 725), (.str "passing" 726), (.str "failing" 727)] 0), #[]⟩
def o423_0 (P : Params) : Obj := ⟨(.type "tuple"), none, (.seq #[] 0), #[]⟩
def o424_0 (P : Params) : Obj := ⟨.none, none, (.func (zf (mS 27 2) "field_outcomes" "FieldFact.field_outcomes" 0 [] .none .none .none .none none .none .none 0)), #[]⟩
def o425_0 (P : Params) : Obj := ⟨(.type "code"), none, (.fields #[(.str "field_outcomes" 721), (.str "FieldFact.field_outcomes" 722), (.str "/claim/cut.py" 723), (.int 185 0), (.int 2 0), (.int 0 0), (.int 0 0), (.int 3 0), (.ref 420), (.bool true), (.int 181 0), (.ref 421), .none, (.ref 422), (.ref 423), (.ref 424), (.int 728 0), (.int 185 0), (.str "/claim/cut.py" 729)]), #[]⟩
def o426_0 (P : Params) : Obj := ⟨(.type "function"), none, (.func (zf (mS 27 2) "field_outcomes" "FieldFact.field_outcomes" 3 [] .none .none .none (.str "surenear.facts.contents" 621) none (.ref 425) .none 0)), #[]⟩
def o427_0 (P : Params) : Obj := ⟨(.type "tuple"), none, (.seq #[(.str "field" 731), (.str "lack" 732)] 0), #[]⟩
def o428_0 (P : Params) : Obj := ⟨(.type "dict"), none, (.dict #[zd P "__module__" 699 (.str "surenear.facts.contents" 621), zd P "__firstlineno__" 703 (.int 176 702), zd P "__init__" 712 (.ref 412), zd P "outcomes_of_present" 720 (.ref 419), zd P "field_outcomes" 730 (.ref 426), zd P "__static_attributes__" 733 (.ref 427), zd P "__doc__" 734 .none] 2), #[]⟩
def o429_0 (P : Params) : Obj := ⟨(.type "type"), none, (.cls ⟨"FieldFact", [(.ref 80)], [(.ref 429), (.ref 80), (.type "object")], 428, "FieldFact", true, [], [(.ref 475), (.ref 521)], false, none, false⟩), #[(some (.ref 399)), none, (some (.str "FieldFact" 692)), (some (.str "FieldFact" 700)), (some (.builtin "object.__new__")), (some (.bool true))]⟩
def o430_0 (P : Params) : Obj := ⟨(.type "super"), none, (.fields #[(.ref 429), (.ref 429), (.ref 429)]), #[]⟩
def o431_0 (P : Params) : Obj := ⟨(.type "builtin_function_or_method"), none, (.fields #[(.builtin "object.__init_subclass__"), (.ref 429)]), #[]⟩
def o432_0 (P : Params) : Obj := ⟨(.type "tuple"), none, (.seq #[(.ref 429)] 0), #[]⟩
def o433_0 (P : Params) : Obj := ⟨(.type "builtin_function_or_method"), none, (.fields #[(.builtin "type.__prepare__"), (.type "type")]), #[]⟩
def o434_0 (P : Params) : Obj := ⟨(.type "dict"), none, (.dict #[zd P "__module__" 744 (.str "surenear.facts.contents" 621), zd P "__qualname__" 746 (.str "Range" 745), zd P "__firstlineno__" 748 (.int 194 747), zd P "__init__" 761 (.ref 446), zd P "holds" 769 (.ref 453), zd P "outcomes" 777 (.ref 460), zd P "outcomes_of_present" 783 (.ref 465), zd P "__eq__" 791 (.ref 472), zd P "__static_attributes__" 794 (.ref 473)] 9), #[]⟩
def o435_0 (P : Params) : Obj := ⟨(.type "tuple"), none, (.seq #[] 0), #[]⟩
def o436_0 (P : Params) : Obj := ⟨.none, none, (.fields #[(.int 196 0), (.int 4 0), (.ref 445), (.int 201 0), (.int 4 0), (.ref 452), (.int 204 0), (.int 4 0), (.ref 459), (.int 207 0), (.int 4 0), (.ref 464), (.int 216 0), (.int 4 0), (.ref 471)]), #[]⟩
def o437_0 (P : Params) : Obj := ⟨(.type "code"), none, (.fields #[(.str "Range" 739), (.str "Range" 740), (.str "/claim/cut.py" 741), (.int 194 0), (.int 0 0), (.int 0 0), (.int 0 0), (.int 0 0), (.ref 435), (.bool false), (.int 181 0), (.ref 436), .none, .none, .none, .none, (.int 742 0), (.int 194 0), (.str "/claim/cut.py" 743)]), #[]⟩
def o438_0 (P : Params) : Obj := ⟨(.type "frame"), none, .plain, #[(some (.ref 437)), (some (.ref 3)), (some (.ref 434)), none, (some (.str "surenear.facts.contents" 621)), none, (some (.ref 0))]⟩
def o439_0 (P : Params) : Obj := ⟨(.type "dict"), none, (.dict #[zd P "lack" 750 (.str "nobody" 749)] 1), #[]⟩
def o440_0 (P : Params) : Obj := ⟨(.type "tuple"), none, (.seq #[] 0), #[]⟩
def o441_0 (P : Params) : Obj := ⟨.none, none, (.fields #[]), #[]⟩
def o442_0 (P : Params) : Obj := ⟨(.type "tuple"), none, (.seq #[(.str "self" 754), (.str "field" 755), (.str "low" 756), (.str "high" 757), (.str "lack" 758)] 0), #[]⟩
def o443_0 (P : Params) : Obj := ⟨(.type "tuple"), none, (.seq #[] 0), #[]⟩
def o444_0 (P : Params) : Obj := ⟨.none, none, (.func (zf (mS 28 0) "__init__" "Range.__init__" 0 [] .none .none .none .none none .none .none 0)), #[]⟩
def o445_0 (P : Params) : Obj := ⟨(.type "code"), none, (.fields #[(.str "__init__" 751), (.str "Range.__init__" 752), (.str "/claim/cut.py" 753), (.int 196 0), (.int 4 0), (.int 0 0), (.int 1 0), (.int 3 0), (.ref 440), (.bool true), (.int 181 0), (.ref 441), .none, (.ref 442), (.ref 443), (.ref 444), (.int 759 0), (.int 196 0), (.str "/claim/cut.py" 760)]), #[]⟩
def o446_0 (P : Params) : Obj := ⟨(.type "function"), none, (.func (zf (mS 28 0) "__init__" "Range.__init__" 3 [] .none (.ref 439) .none (.str "surenear.facts.contents" 621) none (.ref 445) .none 0)), #[]⟩
def o447_0 (P : Params) : Obj := ⟨(.type "tuple"), none, (.seq #[] 0), #[]⟩
def o448_0 (P : Params) : Obj := ⟨.none, none, (.fields #[]), #[]⟩
def o449_0 (P : Params) : Obj := ⟨(.type "tuple"), none, (.seq #[(.str "self" 765), (.str "record" 766)] 0), #[]⟩
def o450_0 (P : Params) : Obj := ⟨(.type "tuple"), none, (.seq #[] 0), #[]⟩
def o451_0 (P : Params) : Obj := ⟨.none, none, (.func (zf (mS 28 1) "holds" "Range.holds" 0 [] .none .none .none .none none .none .none 0)), #[]⟩
def o452_0 (P : Params) : Obj := ⟨(.type "code"), none, (.fields #[(.str "holds" 762), (.str "Range.holds" 763), (.str "/claim/cut.py" 764), (.int 201 0), (.int 2 0), (.int 0 0), (.int 0 0), (.int 3 0), (.ref 447), (.bool true), (.int 181 0), (.ref 448), .none, (.ref 449), (.ref 450), (.ref 451), (.int 767 0), (.int 201 0), (.str "/claim/cut.py" 768)]), #[]⟩
def o453_0 (P : Params) : Obj := ⟨(.type "function"), none, (.func (zf (mS 28 1) "holds" "Range.holds" 3 [] .none .none .none (.str "surenear.facts.contents" 621) none (.ref 452) .none 0)), #[]⟩
def o454_0 (P : Params) : Obj := ⟨(.type "tuple"), none, (.seq #[] 0), #[]⟩
def o455_0 (P : Params) : Obj := ⟨.none, none, (.fields #[]), #[]⟩
def o456_0 (P : Params) : Obj := ⟨(.type "tuple"), none, (.seq #[(.str "self" 773), (.str "condition" 774)] 0), #[]⟩
def o457_0 (P : Params) : Obj := ⟨(.type "tuple"), none, (.seq #[] 0), #[]⟩
def o458_0 (P : Params) : Obj := ⟨.none, none, (.func (zf (mS 28 2) "outcomes" "Range.outcomes" 0 [] .none .none .none .none none .none .none 0)), #[]⟩
def o459_0 (P : Params) : Obj := ⟨(.type "code"), none, (.fields #[(.str "outcomes" 770), (.str "Range.outcomes" 771), (.str "/claim/cut.py" 772), (.int 204 0), (.int 2 0), (.int 0 0), (.int 0 0), (.int 3 0), (.ref 454), (.bool true), (.int 181 0), (.ref 455), .none, (.ref 456), (.ref 457), (.ref 458), (.int 775 0), (.int 204 0), (.str "/claim/cut.py" 776)]), #[]⟩
def o460_0 (P : Params) : Obj := ⟨(.type "function"), none, (.func (zf (mS 28 2) "outcomes" "Range.outcomes" 3 [] .none .none .none (.str "surenear.facts.contents" 621) none (.ref 459) .none 0)), #[]⟩
def o461_0 (P : Params) : Obj := ⟨(.type "tuple"), none, (.seq #[] 0), #[]⟩
def o462_0 (P : Params) : Obj := ⟨.none, none, (.fields #[]), #[]⟩
def o463_0 (P : Params) : Obj := ⟨.none, none, (.func (zf (mS 28 3) "outcomes_of_present" "Range.outcomes_of_present" 0 [] .none .none .none .none none .none .none 0)), #[]⟩
def o464_0 (P : Params) : Obj := ⟨(.type "code"), none, (.fields #[(.str "outcomes_of_present" 778), (.str "Range.outcomes_of_present" 779), (.str "/claim/cut.py" 780), (.int 207 0), (.int 2 0), (.int 0 0), (.int 0 0), (.int 3 0), (.ref 461), (.bool true), (.int 181 0), (.ref 462), .none, .none, .none, (.ref 463), (.int 781 0), (.int 207 0), (.str "/claim/cut.py" 782)]), #[]⟩
def o465_0 (P : Params) : Obj := ⟨(.type "function"), none, (.func (zf (mS 28 3) "outcomes_of_present" "Range.outcomes_of_present" 3 [] .none .none .none (.str "surenear.facts.contents" 621) none (.ref 464) .none 0)), #[]⟩
def o466_0 (P : Params) : Obj := ⟨(.type "tuple"), none, (.seq #[] 0), #[]⟩
def o467_0 (P : Params) : Obj := ⟨.none, none, (.fields #[]), #[]⟩
def o468_0 (P : Params) : Obj := ⟨(.type "tuple"), none, (.seq #[(.str "self" 787), (.str "other" 788)] 0), #[]⟩
def o469_0 (P : Params) : Obj := ⟨(.type "tuple"), none, (.seq #[] 0), #[]⟩
def o470_0 (P : Params) : Obj := ⟨.none, none, (.func (zf (mS 28 4) "__eq__" "Range.__eq__" 0 [] .none .none .none .none none .none .none 0)), #[]⟩
def o471_0 (P : Params) : Obj := ⟨(.type "code"), none, (.fields #[(.str "__eq__" 784), (.str "Range.__eq__" 785), (.str "/claim/cut.py" 786), (.int 216 0), (.int 2 0), (.int 0 0), (.int 0 0), (.int 3 0), (.ref 466), (.bool true), (.int 181 0), (.ref 467), .none, (.ref 468), (.ref 469), (.ref 470), (.int 789 0), (.int 216 0), (.str "/claim/cut.py" 790)]), #[]⟩
def o472_0 (P : Params) : Obj := ⟨(.type "function"), none, (.func (zf (mS 28 4) "__eq__" "Range.__eq__" 3 [] .none .none .none (.str "surenear.facts.contents" 621) none (.ref 471) .none 0)), #[]⟩
def o473_0 (P : Params) : Obj := ⟨(.type "tuple"), none, (.seq #[(.str "high" 792), (.str "low" 793)] 0), #[]⟩
def o474_0 (P : Params) : Obj := ⟨(.type "dict"), none, (.dict #[zd P "__module__" 744 (.str "surenear.facts.contents" 621), zd P "__firstlineno__" 748 (.int 194 747), zd P "__init__" 761 (.ref 446), zd P "holds" 769 (.ref 453), zd P "outcomes" 777 (.ref 460), zd P "outcomes_of_present" 783 (.ref 465), zd P "__eq__" 791 (.ref 472), zd P "__static_attributes__" 794 (.ref 473), zd P "__doc__" 795 .none, zd P "__hash__" 796 .none] 3), #[]⟩
def o475_0 (P : Params) : Obj := ⟨(.type "type"), none, (.cls ⟨"Range", [(.ref 429)], [(.ref 475), (.ref 429), (.ref 80), (.type "object")], 474, "Range", true, [], [], false, none, false⟩), #[(some (.ref 432)), none, (some (.str "Range" 737)), (some (.str "Range" 745)), (some (.builtin "object.__new__")), (some (.bool true))]⟩
def o476_0 (P : Params) : Obj := ⟨(.type "super"), none, (.fields #[(.ref 475), (.ref 475), (.ref 475)]), #[]⟩
def o477_0 (P : Params) : Obj := ⟨(.type "builtin_function_or_method"), none, (.fields #[(.builtin "object.__init_subclass__"), (.ref 475)]), #[]⟩
def o478_0 (P : Params) : Obj := ⟨(.type "tuple"), none, (.seq #[(.ref 429)] 0), #[]⟩
def o479_0 (P : Params) : Obj := ⟨(.type "builtin_function_or_method"), none, (.fields #[(.builtin "type.__prepare__"), (.type "type")]), #[]⟩
def o480_0 (P : Params) : Obj := ⟨(.type "dict"), none, (.dict #[zd P "__module__" 806 (.str "surenear.facts.contents" 621), zd P "__qualname__" 808 (.str "Values" 807), zd P "__firstlineno__" 810 (.int 220 809), zd P "__init__" 822 (.ref 492), zd P "holds" 830 (.ref 499), zd P "outcomes" 838 (.ref 506), zd P "outcomes_of_present" 844 (.ref 511), zd P "__eq__" 852 (.ref 518), zd P "__static_attributes__" 854 (.ref 519)] 9), #[]⟩
def o481_0 (P : Params) : Obj := ⟨(.type "tuple"), none, (.seq #[] 0), #[]⟩
def o482_0 (P : Params) : Obj := ⟨.none, none, (.fields #[(.int 222 0), (.int 4 0), (.ref 491), (.int 226 0), (.int 4 0), (.ref 498), (.int 229 0), (.int 4 0), (.ref 505), (.int 232 0), (.int 4 0), (.ref 510), (.int 236 0), (.int 4 0), (.ref 517)]), #[]⟩
def o483_0 (P : Params) : Obj := ⟨(.type "code"), none, (.fields #[(.str "Values" 801), (.str "Values" 802), (.str "/claim/cut.py" 803), (.int 220 0), (.int 0 0), (.int 0 0), (.int 0 0), (.int 0 0), (.ref 481), (.bool false), (.int 181 0), (.ref 482), .none, .none, .none, .none, (.int 804 0), (.int 220 0), (.str "/claim/cut.py" 805)]), #[]⟩
def o484_0 (P : Params) : Obj := ⟨(.type "frame"), none, .plain, #[(some (.ref 483)), (some (.ref 3)), (some (.ref 480)), none, (some (.str "surenear.facts.contents" 621)), none, (some (.ref 0))]⟩
def o485_0 (P : Params) : Obj := ⟨(.type "dict"), none, (.dict #[zd P "lack" 812 (.str "nobody" 811)] 1), #[]⟩
def o486_0 (P : Params) : Obj := ⟨(.type "tuple"), none, (.seq #[] 0), #[]⟩
def o487_0 (P : Params) : Obj := ⟨.none, none, (.fields #[]), #[]⟩
def o488_0 (P : Params) : Obj := ⟨(.type "tuple"), none, (.seq #[(.str "self" 816), (.str "field" 817), (.str "choices" 818), (.str "lack" 819)] 0), #[]⟩
def o489_0 (P : Params) : Obj := ⟨(.type "tuple"), none, (.seq #[] 0), #[]⟩
def o490_0 (P : Params) : Obj := ⟨.none, none, (.func (zf (mS 29 0) "__init__" "Values.__init__" 0 [] .none .none .none .none none .none .none 0)), #[]⟩
def o491_0 (P : Params) : Obj := ⟨(.type "code"), none, (.fields #[(.str "__init__" 813), (.str "Values.__init__" 814), (.str "/claim/cut.py" 815), (.int 222 0), (.int 3 0), (.int 0 0), (.int 1 0), (.int 3 0), (.ref 486), (.bool true), (.int 181 0), (.ref 487), .none, (.ref 488), (.ref 489), (.ref 490), (.int 820 0), (.int 222 0), (.str "/claim/cut.py" 821)]), #[]⟩
def o492_0 (P : Params) : Obj := ⟨(.type "function"), none, (.func (zf (mS 29 0) "__init__" "Values.__init__" 3 [] .none (.ref 485) .none (.str "surenear.facts.contents" 621) none (.ref 491) .none 0)), #[]⟩
def o493_0 (P : Params) : Obj := ⟨(.type "tuple"), none, (.seq #[] 0), #[]⟩
def o494_0 (P : Params) : Obj := ⟨.none, none, (.fields #[]), #[]⟩
def o495_0 (P : Params) : Obj := ⟨(.type "tuple"), none, (.seq #[(.str "self" 826), (.str "record" 827)] 0), #[]⟩
def o496_0 (P : Params) : Obj := ⟨(.type "tuple"), none, (.seq #[] 0), #[]⟩
def o497_0 (P : Params) : Obj := ⟨.none, none, (.func (zf (mS 29 1) "holds" "Values.holds" 0 [] .none .none .none .none none .none .none 0)), #[]⟩
def o498_0 (P : Params) : Obj := ⟨(.type "code"), none, (.fields #[(.str "holds" 823), (.str "Values.holds" 824), (.str "/claim/cut.py" 825), (.int 226 0), (.int 2 0), (.int 0 0), (.int 0 0), (.int 3 0), (.ref 493), (.bool true), (.int 181 0), (.ref 494), .none, (.ref 495), (.ref 496), (.ref 497), (.int 828 0), (.int 226 0), (.str "/claim/cut.py" 829)]), #[]⟩
def o499_0 (P : Params) : Obj := ⟨(.type "function"), none, (.func (zf (mS 29 1) "holds" "Values.holds" 3 [] .none .none .none (.str "surenear.facts.contents" 621) none (.ref 498) .none 0)), #[]⟩
def o500_0 (P : Params) : Obj := ⟨(.type "tuple"), none, (.seq #[] 0), #[]⟩
def o501_0 (P : Params) : Obj := ⟨.none, none, (.fields #[]), #[]⟩
def o502_0 (P : Params) : Obj := ⟨(.type "tuple"), none, (.seq #[(.str "self" 834), (.str "condition" 835)] 0), #[]⟩
def o503_0 (P : Params) : Obj := ⟨(.type "tuple"), none, (.seq #[] 0), #[]⟩
def o504_0 (P : Params) : Obj := ⟨.none, none, (.func (zf (mS 29 2) "outcomes" "Values.outcomes" 0 [] .none .none .none .none none .none .none 0)), #[]⟩
def o505_0 (P : Params) : Obj := ⟨(.type "code"), none, (.fields #[(.str "outcomes" 831), (.str "Values.outcomes" 832), (.str "/claim/cut.py" 833), (.int 229 0), (.int 2 0), (.int 0 0), (.int 0 0), (.int 3 0), (.ref 500), (.bool true), (.int 181 0), (.ref 501), .none, (.ref 502), (.ref 503), (.ref 504), (.int 836 0), (.int 229 0), (.str "/claim/cut.py" 837)]), #[]⟩
def o506_0 (P : Params) : Obj := ⟨(.type "function"), none, (.func (zf (mS 29 2) "outcomes" "Values.outcomes" 3 [] .none .none .none (.str "surenear.facts.contents" 621) none (.ref 505) .none 0)), #[]⟩
def o507_0 (P : Params) : Obj := ⟨(.type "tuple"), none, (.seq #[] 0), #[]⟩
def o508_0 (P : Params) : Obj := ⟨.none, none, (.fields #[]), #[]⟩
def o509_0 (P : Params) : Obj := ⟨.none, none, (.func (zf (mS 29 3) "outcomes_of_present" "Values.outcomes_of_present" 0 [] .none .none .none .none none .none .none 0)), #[]⟩
def o510_0 (P : Params) : Obj := ⟨(.type "code"), none, (.fields #[(.str "outcomes_of_present" 839), (.str "Values.outcomes_of_present" 840), (.str "/claim/cut.py" 841), (.int 232 0), (.int 2 0), (.int 0 0), (.int 0 0), (.int 3 0), (.ref 507), (.bool true), (.int 181 0), (.ref 508), .none, .none, .none, (.ref 509), (.int 842 0), (.int 232 0), (.str "/claim/cut.py" 843)]), #[]⟩
def o511_0 (P : Params) : Obj := ⟨(.type "function"), none, (.func (zf (mS 29 3) "outcomes_of_present" "Values.outcomes_of_present" 3 [] .none .none .none (.str "surenear.facts.contents" 621) none (.ref 510) .none 0)), #[]⟩
def o512_0 (P : Params) : Obj := ⟨(.type "tuple"), none, (.seq #[] 0), #[]⟩
def o513_0 (P : Params) : Obj := ⟨.none, none, (.fields #[]), #[]⟩
def o514_0 (P : Params) : Obj := ⟨(.type "tuple"), none, (.seq #[(.str "self" 848), (.str "other" 849)] 0), #[]⟩
def o515_0 (P : Params) : Obj := ⟨(.type "tuple"), none, (.seq #[] 0), #[]⟩
def o516_0 (P : Params) : Obj := ⟨.none, none, (.func (zf (mS 29 4) "__eq__" "Values.__eq__" 0 [] .none .none .none .none none .none .none 0)), #[]⟩
def o517_0 (P : Params) : Obj := ⟨(.type "code"), none, (.fields #[(.str "__eq__" 845), (.str "Values.__eq__" 846), (.str "/claim/cut.py" 847), (.int 236 0), (.int 2 0), (.int 0 0), (.int 0 0), (.int 3 0), (.ref 512), (.bool true), (.int 181 0), (.ref 513), .none, (.ref 514), (.ref 515), (.ref 516), (.int 850 0), (.int 236 0), (.str "/claim/cut.py" 851)]), #[]⟩
def o518_0 (P : Params) : Obj := ⟨(.type "function"), none, (.func (zf (mS 29 4) "__eq__" "Values.__eq__" 3 [] .none .none .none (.str "surenear.facts.contents" 621) none (.ref 517) .none 0)), #[]⟩
def o519_0 (P : Params) : Obj := ⟨(.type "tuple"), none, (.seq #[(.str "choices" 853)] 0), #[]⟩
def o520_0 (P : Params) : Obj := ⟨(.type "dict"), none, (.dict #[zd P "__module__" 806 (.str "surenear.facts.contents" 621), zd P "__firstlineno__" 810 (.int 220 809), zd P "__init__" 822 (.ref 492), zd P "holds" 830 (.ref 499), zd P "outcomes" 838 (.ref 506), zd P "outcomes_of_present" 844 (.ref 511), zd P "__eq__" 852 (.ref 518), zd P "__static_attributes__" 854 (.ref 519), zd P "__doc__" 855 .none, zd P "__hash__" 856 .none] 3), #[]⟩
def o521_0 (P : Params) : Obj := ⟨(.type "type"), none, (.cls ⟨"Values", [(.ref 429)], [(.ref 521), (.ref 429), (.ref 80), (.type "object")], 520, "Values", true, [], [], false, none, false⟩), #[(some (.ref 478)), none, (some (.str "Values" 799)), (some (.str "Values" 807)), (some (.builtin "object.__new__")), (some (.bool true))]⟩
def o522_0 (P : Params) : Obj := ⟨(.type "super"), none, (.fields #[(.ref 521), (.ref 521), (.ref 521)]), #[]⟩
def o523_0 (P : Params) : Obj := ⟨(.type "builtin_function_or_method"), none, (.fields #[(.builtin "object.__init_subclass__"), (.ref 521)]), #[]⟩
def o524_0 (P : Params) : Obj := ⟨(.type "tuple"), none, (.seq #[(.ref 80)] 0), #[]⟩
def o525_0 (P : Params) : Obj := ⟨(.type "builtin_function_or_method"), none, (.fields #[(.builtin "type.__prepare__"), (.type "type")]), #[]⟩
def o526_0 (P : Params) : Obj := ⟨(.type "dict"), none, (.dict #[zd P "__module__" 866 (.str "surenear.facts.contents" 621), zd P "__qualname__" 868 (.str "Counts" 867), zd P "__firstlineno__" 870 (.int 240 869), zd P "__init__" 876 (.ref 535), zd P "count_bound" 884 (.ref 542), zd P "names_word" 892 (.ref 549), zd P "holds" 900 (.ref 556), zd P "__eq__" 908 (.ref 563), zd P "__static_attributes__" 910 (.ref 564)] 9), #[]⟩
def o527_0 (P : Params) : Obj := ⟨(.type "tuple"), none, (.seq #[] 0), #[]⟩
def o528_0 (P : Params) : Obj := ⟨.none, none, (.fields #[(.int 242 0), (.int 4 0), (.ref 534), (.int 245 0), (.int 4 0), (.ref 541), (.int 248 0), (.int 4 0), (.ref 548), (.int 251 0), (.int 4 0), (.ref 555), (.int 254 0), (.int 4 0), (.ref 562)]), #[]⟩
def o529_0 (P : Params) : Obj := ⟨(.type "code"), none, (.fields #[(.str "Counts" 861), (.str "Counts" 862), (.str "/claim/cut.py" 863), (.int 240 0), (.int 0 0), (.int 0 0), (.int 0 0), (.int 0 0), (.ref 527), (.bool false), (.int 181 0), (.ref 528), .none, .none, .none, .none, (.int 864 0), (.int 240 0), (.str "/claim/cut.py" 865)]), #[]⟩
def o530_0 (P : Params) : Obj := ⟨(.type "frame"), none, .plain, #[(some (.ref 529)), (some (.ref 3)), (some (.ref 526)), none, (some (.str "surenear.facts.contents" 621)), none, (some (.ref 0))]⟩
def o531_0 (P : Params) : Obj := ⟨(.type "tuple"), none, (.seq #[] 0), #[]⟩
def o532_0 (P : Params) : Obj := ⟨.none, none, (.fields #[]), #[]⟩
def o533_0 (P : Params) : Obj := ⟨.none, none, (.func (zf (mS 30 0) "__init__" "Counts.__init__" 0 [] .none .none .none .none none .none .none 0)), #[]⟩
def o534_0 (P : Params) : Obj := ⟨(.type "code"), none, (.fields #[(.str "__init__" 871), (.str "Counts.__init__" 872), (.str "/claim/cut.py" 873), (.int 242 0), (.int 2 0), (.int 0 0), (.int 0 0), (.int 3 0), (.ref 531), (.bool true), (.int 181 0), (.ref 532), .none, .none, .none, (.ref 533), (.int 874 0), (.int 242 0), (.str "/claim/cut.py" 875)]), #[]⟩
def o535_0 (P : Params) : Obj := ⟨(.type "function"), none, (.func (zf (mS 30 0) "__init__" "Counts.__init__" 3 [] .none .none .none (.str "surenear.facts.contents" 621) none (.ref 534) .none 0)), #[]⟩
def o536_0 (P : Params) : Obj := ⟨(.type "tuple"), none, (.seq #[] 0), #[]⟩
def o537_0 (P : Params) : Obj := ⟨.none, none, (.fields #[]), #[]⟩
def o538_0 (P : Params) : Obj := ⟨(.type "tuple"), none, (.seq #[(.str "self" 880), (.str "word" 881)] 0), #[]⟩
def o539_0 (P : Params) : Obj := ⟨(.type "tuple"), none, (.seq #[] 0), #[]⟩
def o540_0 (P : Params) : Obj := ⟨.none, none, (.func (zf (mS 30 1) "count_bound" "Counts.count_bound" 0 [] .none .none .none .none none .none .none 0)), #[]⟩
def o541_0 (P : Params) : Obj := ⟨(.type "code"), none, (.fields #[(.str "count_bound" 877), (.str "Counts.count_bound" 878), (.str "/claim/cut.py" 879), (.int 245 0), (.int 2 0), (.int 0 0), (.int 0 0), (.int 3 0), (.ref 536), (.bool true), (.int 181 0), (.ref 537), .none, (.ref 538), (.ref 539), (.ref 540), (.int 882 0), (.int 245 0), (.str "/claim/cut.py" 883)]), #[]⟩
def o542_0 (P : Params) : Obj := ⟨(.type "function"), none, (.func (zf (mS 30 1) "count_bound" "Counts.count_bound" 3 [] .none .none .none (.str "surenear.facts.contents" 621) none (.ref 541) .none 0)), #[]⟩
def o543_0 (P : Params) : Obj := ⟨(.type "tuple"), none, (.seq #[] 0), #[]⟩
def o544_0 (P : Params) : Obj := ⟨.none, none, (.fields #[]), #[]⟩
def o545_0 (P : Params) : Obj := ⟨(.type "tuple"), none, (.seq #[(.str "self" 888), (.str "word" 889)] 0), #[]⟩
def o546_0 (P : Params) : Obj := ⟨(.type "tuple"), none, (.seq #[] 0), #[]⟩
def o547_0 (P : Params) : Obj := ⟨.none, none, (.func (zf (mS 30 2) "names_word" "Counts.names_word" 0 [] .none .none .none .none none .none .none 0)), #[]⟩
def o548_0 (P : Params) : Obj := ⟨(.type "code"), none, (.fields #[(.str "names_word" 885), (.str "Counts.names_word" 886), (.str "/claim/cut.py" 887), (.int 248 0), (.int 2 0), (.int 0 0), (.int 0 0), (.int 3 0), (.ref 543), (.bool true), (.int 181 0), (.ref 544), .none, (.ref 545), (.ref 546), (.ref 547), (.int 890 0), (.int 248 0), (.str "/claim/cut.py" 891)]), #[]⟩
def o549_0 (P : Params) : Obj := ⟨(.type "function"), none, (.func (zf (mS 30 2) "names_word" "Counts.names_word" 3 [] .none .none .none (.str "surenear.facts.contents" 621) none (.ref 548) .none 0)), #[]⟩
def o550_0 (P : Params) : Obj := ⟨(.type "tuple"), none, (.seq #[] 0), #[]⟩
def o551_0 (P : Params) : Obj := ⟨.none, none, (.fields #[]), #[]⟩
def o552_0 (P : Params) : Obj := ⟨(.type "tuple"), none, (.seq #[(.str "self" 896), (.str "record" 897)] 0), #[]⟩
def o553_0 (P : Params) : Obj := ⟨(.type "tuple"), none, (.seq #[] 0), #[]⟩
def o554_0 (P : Params) : Obj := ⟨.none, none, (.func (zf (mS 30 3) "holds" "Counts.holds" 0 [] .none .none .none .none none .none .none 0)), #[]⟩
def o555_0 (P : Params) : Obj := ⟨(.type "code"), none, (.fields #[(.str "holds" 893), (.str "Counts.holds" 894), (.str "/claim/cut.py" 895), (.int 251 0), (.int 2 0), (.int 0 0), (.int 0 0), (.int 3 0), (.ref 550), (.bool true), (.int 181 0), (.ref 551), .none, (.ref 552), (.ref 553), (.ref 554), (.int 898 0), (.int 251 0), (.str "/claim/cut.py" 899)]), #[]⟩
def o556_0 (P : Params) : Obj := ⟨(.type "function"), none, (.func (zf (mS 30 3) "holds" "Counts.holds" 3 [] .none .none .none (.str "surenear.facts.contents" 621) none (.ref 555) .none 0)), #[]⟩
def o557_0 (P : Params) : Obj := ⟨(.type "tuple"), none, (.seq #[] 0), #[]⟩
def o558_0 (P : Params) : Obj := ⟨.none, none, (.fields #[]), #[]⟩
def o559_0 (P : Params) : Obj := ⟨(.type "tuple"), none, (.seq #[(.str "self" 904), (.str "other" 905)] 0), #[]⟩
def o560_0 (P : Params) : Obj := ⟨(.type "tuple"), none, (.seq #[] 0), #[]⟩
def o561_0 (P : Params) : Obj := ⟨.none, none, (.func (zf (mS 30 4) "__eq__" "Counts.__eq__" 0 [] .none .none .none .none none .none .none 0)), #[]⟩
def o562_0 (P : Params) : Obj := ⟨(.type "code"), none, (.fields #[(.str "__eq__" 901), (.str "Counts.__eq__" 902), (.str "/claim/cut.py" 903), (.int 254 0), (.int 2 0), (.int 0 0), (.int 0 0), (.int 3 0), (.ref 557), (.bool true), (.int 181 0), (.ref 558), .none, (.ref 559), (.ref 560), (.ref 561), (.int 906 0), (.int 254 0), (.str "/claim/cut.py" 907)]), #[]⟩
def o563_0 (P : Params) : Obj := ⟨(.type "function"), none, (.func (zf (mS 30 4) "__eq__" "Counts.__eq__" 3 [] .none .none .none (.str "surenear.facts.contents" 621) none (.ref 562) .none 0)), #[]⟩
def o564_0 (P : Params) : Obj := ⟨(.type "tuple"), none, (.seq #[(.str "words" 909)] 0), #[]⟩
def o565_0 (P : Params) : Obj := ⟨(.type "dict"), none, (.dict #[zd P "__module__" 866 (.str "surenear.facts.contents" 621), zd P "__firstlineno__" 870 (.int 240 869), zd P "__init__" 876 (.ref 535), zd P "count_bound" 884 (.ref 542), zd P "names_word" 892 (.ref 549), zd P "holds" 900 (.ref 556), zd P "__eq__" 908 (.ref 563), zd P "__static_attributes__" 910 (.ref 564), zd P "__doc__" 911 .none, zd P "__hash__" 912 .none] 3), #[]⟩
def o566_0 (P : Params) : Obj := ⟨(.type "type"), none, (.cls ⟨"Counts", [(.ref 80)], [(.ref 566), (.ref 80), (.type "object")], 565, "Counts", true, [], [], false, none, false⟩), #[(some (.ref 524)), none, (some (.str "Counts" 859)), (some (.str "Counts" 867)), (some (.builtin "object.__new__")), (some (.bool true))]⟩
def o567_0 (P : Params) : Obj := ⟨(.type "super"), none, (.fields #[(.ref 566), (.ref 566), (.ref 566)]), #[]⟩
def o568_0 (P : Params) : Obj := ⟨(.type "builtin_function_or_method"), none, (.fields #[(.builtin "object.__init_subclass__"), (.ref 566)]), #[]⟩
def o569_0 (P : Params) : Obj := ⟨(.type "tuple"), none, (.seq #[(.ref 80)] 0), #[]⟩
def o570_0 (P : Params) : Obj := ⟨(.type "builtin_function_or_method"), none, (.fields #[(.builtin "type.__prepare__"), (.type "type")]), #[]⟩
def o571_0 (P : Params) : Obj := ⟨(.type "dict"), none, (.dict #[zd P "__module__" 922 (.str "surenear.facts.contents" 621), zd P "__qualname__" 924 (.str "Names" 923), zd P "__firstlineno__" 926 (.int 256 925), zd P "__init__" 935 (.ref 582), zd P "name_bound" 942 (.ref 589), zd P "holds" 950 (.ref 596), zd P "__eq__" 958 (.ref 603), zd P "__static_attributes__" 961 (.ref 604)] 8), #[]⟩
def o572_0 (P : Params) : Obj := ⟨(.type "tuple"), none, (.seq #[] 0), #[]⟩
def o573_0 (P : Params) : Obj := ⟨.none, none, (.fields #[(.int 258 0), (.int 4 0), (.ref 581), (.int 262 0), (.int 4 0), (.ref 588), (.int 265 0), (.int 4 0), (.ref 595), (.int 268 0), (.int 4 0), (.ref 602)]), #[]⟩
def o574_0 (P : Params) : Obj := ⟨(.type "code"), none, (.fields #[(.str "Names" 917), (.str "Names" 918), (.str "/claim/cut.py" 919), (.int 256 0), (.int 0 0), (.int 0 0), (.int 0 0), (.int 0 0), (.ref 572), (.bool false), (.int 181 0), (.ref 573), .none, .none, .none, .none, (.int 920 0), (.int 256 0), (.str "/claim/cut.py" 921)]), #[]⟩
def o575_0 (P : Params) : Obj := ⟨(.type "frame"), none, .plain, #[(some (.ref 574)), (some (.ref 3)), (some (.ref 571)), none, (some (.str "surenear.facts.contents" 621)), none, (some (.ref 0))]⟩
def o576_0 (P : Params) : Obj := ⟨(.type "tuple"), none, (.seq #[] 0), #[]⟩
def o577_0 (P : Params) : Obj := ⟨.none, none, (.fields #[]), #[]⟩
def o578_0 (P : Params) : Obj := ⟨(.type "tuple"), none, (.seq #[(.str "self" 930), (.str "low" 931), (.str "high" 932)] 0), #[]⟩
def o579_0 (P : Params) : Obj := ⟨(.type "tuple"), none, (.seq #[] 0), #[]⟩
def o580_0 (P : Params) : Obj := ⟨.none, none, (.func (zf (mS 31 0) "__init__" "Names.__init__" 0 [] .none .none .none .none none .none .none 0)), #[]⟩
def o581_0 (P : Params) : Obj := ⟨(.type "code"), none, (.fields #[(.str "__init__" 927), (.str "Names.__init__" 928), (.str "/claim/cut.py" 929), (.int 258 0), (.int 3 0), (.int 0 0), (.int 0 0), (.int 3 0), (.ref 576), (.bool true), (.int 181 0), (.ref 577), .none, (.ref 578), (.ref 579), (.ref 580), (.int 933 0), (.int 258 0), (.str "/claim/cut.py" 934)]), #[]⟩
def o582_0 (P : Params) : Obj := ⟨(.type "function"), none, (.func (zf (mS 31 0) "__init__" "Names.__init__" 3 [] .none .none .none (.str "surenear.facts.contents" 621) none (.ref 581) .none 0)), #[]⟩
def o583_0 (P : Params) : Obj := ⟨(.type "tuple"), none, (.seq #[] 0), #[]⟩
def o584_0 (P : Params) : Obj := ⟨.none, none, (.fields #[]), #[]⟩
def o585_0 (P : Params) : Obj := ⟨(.type "tuple"), none, (.seq #[(.str "self" 939)] 0), #[]⟩
def o586_0 (P : Params) : Obj := ⟨(.type "tuple"), none, (.seq #[] 0), #[]⟩
def o587_0 (P : Params) : Obj := ⟨.none, none, (.func (zf (mS 31 1) "name_bound" "Names.name_bound" 0 [] .none .none .none .none none .none .none 0)), #[]⟩
def o588_0 (P : Params) : Obj := ⟨(.type "code"), none, (.fields #[(.str "name_bound" 936), (.str "Names.name_bound" 937), (.str "/claim/cut.py" 938), (.int 262 0), (.int 1 0), (.int 0 0), (.int 0 0), (.int 3 0), (.ref 583), (.bool true), (.int 181 0), (.ref 584), .none, (.ref 585), (.ref 586), (.ref 587), (.int 940 0), (.int 262 0), (.str "/claim/cut.py" 941)]), #[]⟩
def o589_0 (P : Params) : Obj := ⟨(.type "function"), none, (.func (zf (mS 31 1) "name_bound" "Names.name_bound" 3 [] .none .none .none (.str "surenear.facts.contents" 621) none (.ref 588) .none 0)), #[]⟩
def o590_0 (P : Params) : Obj := ⟨(.type "tuple"), none, (.seq #[] 0), #[]⟩
def o591_0 (P : Params) : Obj := ⟨.none, none, (.fields #[]), #[]⟩
def o592_0 (P : Params) : Obj := ⟨(.type "tuple"), none, (.seq #[(.str "self" 946), (.str "record" 947)] 0), #[]⟩
def o593_0 (P : Params) : Obj := ⟨(.type "tuple"), none, (.seq #[] 0), #[]⟩
def o594_0 (P : Params) : Obj := ⟨.none, none, (.func (zf (mS 31 2) "holds" "Names.holds" 0 [] .none .none .none .none none .none .none 0)), #[]⟩
def o595_0 (P : Params) : Obj := ⟨(.type "code"), none, (.fields #[(.str "holds" 943), (.str "Names.holds" 944), (.str "/claim/cut.py" 945), (.int 265 0), (.int 2 0), (.int 0 0), (.int 0 0), (.int 3 0), (.ref 590), (.bool true), (.int 181 0), (.ref 591), .none, (.ref 592), (.ref 593), (.ref 594), (.int 948 0), (.int 265 0), (.str "/claim/cut.py" 949)]), #[]⟩
def o596_0 (P : Params) : Obj := ⟨(.type "function"), none, (.func (zf (mS 31 2) "holds" "Names.holds" 3 [] .none .none .none (.str "surenear.facts.contents" 621) none (.ref 595) .none 0)), #[]⟩
def o597_0 (P : Params) : Obj := ⟨(.type "tuple"), none, (.seq #[] 0), #[]⟩
def o598_0 (P : Params) : Obj := ⟨.none, none, (.fields #[]), #[]⟩
def o599_0 (P : Params) : Obj := ⟨(.type "tuple"), none, (.seq #[(.str "self" 954), (.str "other" 955)] 0), #[]⟩
def o600_0 (P : Params) : Obj := ⟨(.type "tuple"), none, (.seq #[] 0), #[]⟩
def o601_0 (P : Params) : Obj := ⟨.none, none, (.func (zf (mS 31 3) "__eq__" "Names.__eq__" 0 [] .none .none .none .none none .none .none 0)), #[]⟩
def o602_0 (P : Params) : Obj := ⟨(.type "code"), none, (.fields #[(.str "__eq__" 951), (.str "Names.__eq__" 952), (.str "/claim/cut.py" 953), (.int 268 0), (.int 2 0), (.int 0 0), (.int 0 0), (.int 3 0), (.ref 597), (.bool true), (.int 181 0), (.ref 598), .none, (.ref 599), (.ref 600), (.ref 601), (.int 956 0), (.int 268 0), (.str "/claim/cut.py" 957)]), #[]⟩
def o603_0 (P : Params) : Obj := ⟨(.type "function"), none, (.func (zf (mS 31 3) "__eq__" "Names.__eq__" 3 [] .none .none .none (.str "surenear.facts.contents" 621) none (.ref 602) .none 0)), #[]⟩
def o604_0 (P : Params) : Obj := ⟨(.type "tuple"), none, (.seq #[(.str "high" 959), (.str "low" 960)] 0), #[]⟩
def o605_0 (P : Params) : Obj := ⟨(.type "dict"), none, (.dict #[zd P "__module__" 922 (.str "surenear.facts.contents" 621), zd P "__firstlineno__" 926 (.int 256 925), zd P "__init__" 935 (.ref 582), zd P "name_bound" 942 (.ref 589), zd P "holds" 950 (.ref 596), zd P "__eq__" 958 (.ref 603), zd P "__static_attributes__" 961 (.ref 604), zd P "__doc__" 962 .none, zd P "__hash__" 963 .none] 3), #[]⟩
def o606_0 (P : Params) : Obj := ⟨(.type "type"), none, (.cls ⟨"Names", [(.ref 80)], [(.ref 606), (.ref 80), (.type "object")], 605, "Names", true, [], [], false, none, false⟩), #[(some (.ref 569)), none, (some (.str "Names" 915)), (some (.str "Names" 923)), (some (.builtin "object.__new__")), (some (.bool true))]⟩
def o607_0 (P : Params) : Obj := ⟨(.type "super"), none, (.fields #[(.ref 606), (.ref 606), (.ref 606)]), #[]⟩
def o608_0 (P : Params) : Obj := ⟨(.type "builtin_function_or_method"), none, (.fields #[(.builtin "object.__init_subclass__"), (.ref 606)]), #[]⟩
def o609_0 (P : Params) : Obj := ⟨(.type "tuple"), none, (.seq #[] 0), #[]⟩
def o610_0 (P : Params) : Obj := ⟨(.type "builtin_function_or_method"), none, (.fields #[(.builtin "type.__prepare__"), (.type "type")]), #[]⟩
def o611_0 (P : Params) : Obj := ⟨(.type "dict"), none, (.dict #[zd P "__module__" 975 (.str "surenear.facts.vectors" 966), zd P "__qualname__" 977 (.str "Part" 976), zd P "__firstlineno__" 979 (.int 271 978), zd P "__init__" 989 (.ref 622), zd P "after" 997 (.ref 630), zd P "cut" 1005 (.ref 637), zd P "__eq__" 1013 (.ref 644), zd P "__static_attributes__" 1017 (.ref 645)] 8), #[]⟩
def o612_0 (P : Params) : Obj := ⟨(.type "tuple"), none, (.seq #[] 0), #[]⟩
def o613_0 (P : Params) : Obj := ⟨.none, none, (.fields #[(.int 273 0), (.int 4 0), (.ref 621), (.int 279 0), (.int 4 0), (.ref 628), (.int 282 0), (.int 4 0), (.ref 636), (.int 285 0), (.int 4 0), (.ref 643)]), #[]⟩
def o614_0 (P : Params) : Obj := ⟨(.type "code"), none, (.fields #[(.str "Part" 970), (.str "Part" 971), (.str "/claim/cut.py" 972), (.int 271 0), (.int 0 0), (.int 0 0), (.int 0 0), (.int 0 0), (.ref 612), (.bool false), (.int 181 0), (.ref 613), .none, .none, .none, .none, (.int 973 0), (.int 271 0), (.str "/claim/cut.py" 974)]), #[]⟩
def o615_0 (P : Params) : Obj := ⟨(.type "frame"), none, .plain, #[(some (.ref 614)), (some (.ref 3)), (some (.ref 611)), none, (some (.str "surenear.facts.vectors" 966)), none, (some (.ref 0))]⟩
def o616_0 (P : Params) : Obj := ⟨(.type "tuple"), none, (.seq #[] 0), #[]⟩
def o617_0 (P : Params) : Obj := ⟨.none, none, (.fields #[]), #[]⟩
def o618_0 (P : Params) : Obj := ⟨(.type "tuple"), none, (.seq #[(.str "self" 983), (.str "start" 984), (.str "centre" 985), (.str "radius" 986)] 0), #[]⟩
def o619_0 (P : Params) : Obj := ⟨(.type "tuple"), none, (.seq #[] 0), #[]⟩
def o620_0 (P : Params) : Obj := ⟨.none, none, (.func (zf (mS 33 0) "__init__" "Part.__init__" 0 [] .none .none .none .none none .none .none 0)), #[]⟩
def o621_0 (P : Params) : Obj := ⟨(.type "code"), none, (.fields #[(.str "__init__" 980), (.str "Part.__init__" 981), (.str "/claim/cut.py" 982), (.int 273 0), (.int 4 0), (.int 0 0), (.int 0 0), (.int 3 0), (.ref 616), (.bool true), (.int 181 0), (.ref 617), .none, (.ref 618), (.ref 619), (.ref 620), (.int 987 0), (.int 273 0), (.str "/claim/cut.py" 988)]), #[]⟩
def o622_0 (P : Params) : Obj := ⟨(.type "function"), none, (.func (zf (mS 33 0) "__init__" "Part.__init__" 3 [] .none .none .none (.str "surenear.facts.vectors" 966) none (.ref 621) .none 0)), #[]⟩
def o623_0 (P : Params) : Obj := ⟨(.type "tuple"), none, (.seq #[] 0), #[]⟩
def o624_0 (P : Params) : Obj := ⟨.none, none, (.fields #[]), #[]⟩
def o625_0 (P : Params) : Obj := ⟨(.type "tuple"), none, (.seq #[(.str "self" 993)] 0), #[]⟩
def o626_0 (P : Params) : Obj := ⟨(.type "tuple"), none, (.seq #[] 0), #[]⟩
def o627_0 (P : Params) : Obj := ⟨.none, none, (.func (zf (mS 33 1) "after" "Part.after" 0 [] .none .none .none .none none .none .none 0)), #[]⟩
def o628_0 (P : Params) : Obj := ⟨(.type "code"), none, (.fields #[(.str "after" 990), (.str "Part.after" 991), (.str "/claim/cut.py" 992), (.int 278 0), (.int 1 0), (.int 0 0), (.int 0 0), (.int 3 0), (.ref 623), (.bool true), (.int 181 0), (.ref 624), .none, (.ref 625), (.ref 626), (.ref 627), (.int 994 0), (.int 278 0), (.str "/claim/cut.py" 995)]), #[]⟩
def o629_0 (P : Params) : Obj := ⟨(.type "function"), none, (.func (zf (mS 33 1) "after" "Part.after" 3 [] .none .none .none (.str "surenear.facts.vectors" 966) none (.ref 628) .none 0)), #[]⟩
def o630_0 (P : Params) : Obj := ⟨(.type "property"), none, (.fields #[(.ref 629), .none, .none, .none, (.str "after" 997), (.bool false)]), #[]⟩
def o631_0 (P : Params) : Obj := ⟨(.type "tuple"), none, (.seq #[] 0), #[]⟩
def o632_0 (P : Params) : Obj := ⟨.none, none, (.fields #[]), #[]⟩
def o633_0 (P : Params) : Obj := ⟨(.type "tuple"), none, (.seq #[(.str "self" 1001), (.str "vector" 1002)] 0), #[]⟩
def o634_0 (P : Params) : Obj := ⟨(.type "tuple"), none, (.seq #[] 0), #[]⟩
def o635_0 (P : Params) : Obj := ⟨.none, none, (.func (zf (mS 33 2) "cut" "Part.cut" 0 [] .none .none .none .none none .none .none 0)), #[]⟩
def o636_0 (P : Params) : Obj := ⟨(.type "code"), none, (.fields #[(.str "cut" 998), (.str "Part.cut" 999), (.str "/claim/cut.py" 1000), (.int 282 0), (.int 2 0), (.int 0 0), (.int 0 0), (.int 3 0), (.ref 631), (.bool true), (.int 181 0), (.ref 632), .none, (.ref 633), (.ref 634), (.ref 635), (.int 1003 0), (.int 282 0), (.str "/claim/cut.py" 1004)]), #[]⟩
def o637_0 (P : Params) : Obj := ⟨(.type "function"), none, (.func (zf (mS 33 2) "cut" "Part.cut" 3 [] .none .none .none (.str "surenear.facts.vectors" 966) none (.ref 636) .none 0)), #[]⟩
def o638_0 (P : Params) : Obj := ⟨(.type "tuple"), none, (.seq #[] 0), #[]⟩
def o639_0 (P : Params) : Obj := ⟨.none, none, (.fields #[]), #[]⟩
def o640_0 (P : Params) : Obj := ⟨(.type "tuple"), none, (.seq #[(.str "self" 1009), (.str "other" 1010)] 0), #[]⟩
def o641_0 (P : Params) : Obj := ⟨(.type "tuple"), none, (.seq #[] 0), #[]⟩
def o642_0 (P : Params) : Obj := ⟨.none, none, (.func (zf (mS 33 3) "__eq__" "Part.__eq__" 0 [] .none .none .none .none none .none .none 0)), #[]⟩
def o643_0 (P : Params) : Obj := ⟨(.type "code"), none, (.fields #[(.str "__eq__" 1006), (.str "Part.__eq__" 1007), (.str "/claim/cut.py" 1008), (.int 285 0), (.int 2 0), (.int 0 0), (.int 0 0), (.int 3 0), (.ref 638), (.bool true), (.int 181 0), (.ref 639), .none, (.ref 640), (.ref 641), (.ref 642), (.int 1011 0), (.int 285 0), (.str "/claim/cut.py" 1012)]), #[]⟩
def o644_0 (P : Params) : Obj := ⟨(.type "function"), none, (.func (zf (mS 33 3) "__eq__" "Part.__eq__" 3 [] .none .none .none (.str "surenear.facts.vectors" 966) none (.ref 643) .none 0)), #[]⟩
def o645_0 (P : Params) : Obj := ⟨(.type "tuple"), none, (.seq #[(.str "centre" 1014), (.str "radius" 1015), (.str "start" 1016)] 0), #[]⟩
def o646_0 (P : Params) : Obj := ⟨(.type "dict"), none, (.dict #[zd P "__module__" 975 (.str "surenear.facts.vectors" 966), zd P "__firstlineno__" 979 (.int 271 978), zd P "__init__" 989 (.ref 622), zd P "after" 997 (.ref 630), zd P "cut" 1005 (.ref 637), zd P "__eq__" 1013 (.ref 644), zd P "__static_attributes__" 1017 (.ref 645), zd P "__dict__" 1019 (.ref 648), zd P "__weakref__" 1021 (.ref 649), zd P "__doc__" 1022 .none, zd P "__hash__" 1023 .none] 5), #[]⟩
def o647_0 (P : Params) : Obj := ⟨(.type "type"), none, (.cls ⟨"Part", [(.type "object")], [(.ref 647), (.type "object")], 646, "Part", true, [], [], false, none, false⟩), #[none, none, (some (.str "Part" 968)), (some (.str "Part" 976)), (some (.builtin "object.__new__")), (some (.bool true))]⟩
def o648_0 (P : Params) : Obj := ⟨(.type "getset_descriptor"), none, (.fields #[(.str "__dict__" 1018), (.ref 647), (.builtin "function.__dict__"), (.builtin "function.__dict__#set")]), #[]⟩
def o649_0 (P : Params) : Obj := ⟨(.type "getset_descriptor"), none, (.fields #[(.str "__weakref__" 1020), (.ref 647), (.builtin "ExceptionGroup.__weakref__"), .none]), #[]⟩
def o650_0 (P : Params) : Obj := ⟨(.type "super"), none, (.fields #[(.ref 647), (.ref 647), (.ref 647)]), #[]⟩
def o651_0 (P : Params) : Obj := ⟨(.type "builtin_function_or_method"), none, (.fields #[(.builtin "object.__init_subclass__"), (.ref 647)]), #[]⟩
def t4 (P : Params) : BT := (nd (PySem.W.boot_o_0 P) (nd (PySem.W.boot_o_1 P) (nd (o3_3 P) (nd (PySem.W.boot_o_7 P) (nd (o15_0 P) (nd (o31_0 P) (nd (o63_0 P) (nd (o127_0 P) (nd (o255_0 P) (nd (o511_0 P) lf lf) lf) (nd (o383_0 P) (nd (o639_0 P) lf lf) lf)) (nd (o191_0 P) (nd (o319_0 P) (nd (o575_0 P) lf lf) lf) (nd (o447_0 P) lf lf))) (nd (o95_0 P) (nd (o159_0 P) (nd (o287_0 P) (nd (o543_0 P) lf lf) lf) (nd (o415_0 P) lf lf)) (nd (o223_0 P) (nd (o351_0 P) (nd (o607_0 P) lf lf) lf) (nd (o479_0 P) lf lf)))) (nd (o47_0 P) (nd (o79_0 P) (nd (o143_0 P) (nd (o271_0 P) (nd (o527_0 P) lf lf) lf) (nd (o399_0 P) lf lf)) (nd (o207_0 P) (nd (o335_0 P) (nd (o591_0 P) lf lf) lf) (nd (o463_0 P) lf lf))) (nd (o111_0 P) (nd (o175_0 P) (nd (o303_0 P) (nd (o559_0 P) lf lf) lf) (nd (o431_0 P) lf lf)) (nd (o239_0 P) (nd (o367_0 P) (nd (o623_0 P) lf lf) lf) (nd (o495_0 P) lf lf))))) (nd (o23_0 P) (nd (o39_0 P) (nd (o71_0 P) (nd (o135_0 P) (nd (o263_0 P) (nd (o519_0 P) lf lf) lf) (nd (o391_0 P) (nd (o647_0 P) lf lf) lf)) (nd (o199_0 P) (nd (o327_0 P) (nd (o583_0 P) lf lf) lf) (nd (o455_0 P) lf lf))) (nd (o103_0 P) (nd (o167_0 P) (nd (o295_0 P) (nd (o551_0 P) lf lf) lf) (nd (o423_0 P) lf lf)) (nd (o231_0 P) (nd (o359_0 P) (nd (o615_0 P) lf lf) lf) (nd (o487_0 P) lf lf)))) (nd (o55_0 P) (nd (o87_0 P) (nd (o151_0 P) (nd (o279_0 P) (nd (o535_0 P) lf lf) lf) (nd (o407_0 P) lf lf)) (nd (o215_0 P) (nd (o343_0 P) (nd (o599_0 P) lf lf) lf) (nd (o471_0 P) lf lf))) (nd (o119_0 P) (nd (o183_0 P) (nd (o311_0 P) (nd (o567_0 P) lf lf) lf) (nd (o439_0 P) lf lf)) (nd (o247_0 P) (nd (o375_0 P) (nd (o631_0 P) lf lf) lf) (nd (o503_0 P) lf lf)))))) (nd (o11_0 P) (nd (o19_0 P) (nd (o35_0 P) (nd (o67_0 P) (nd (o131_0 P) (nd (o259_0 P) (nd (o515_0 P) lf lf) lf) (nd (o387_0 P) (nd (o643_0 P) lf lf) lf)) (nd (o195_0 P) (nd (o323_0 P) (nd (o579_0 P) lf lf) lf) (nd (o451_0 P) lf lf))) (nd (o99_0 P) (nd (o163_0 P) (nd (o291_0 P) (nd (o547_0 P) lf lf) lf) (nd (o419_0 P) lf lf)) (nd (o227_0 P) (nd (o355_0 P) (nd (o611_0 P) lf lf) lf) (nd (o483_0 P) lf lf)))) (nd (o51_0 P) (nd (o83_0 P) (nd (o147_0 P) (nd (o275_0 P) (nd (o531_0 P) lf lf) lf) (nd (o403_0 P) lf lf)) (nd (o211_0 P) (nd (o339_0 P) (nd (o595_0 P) lf lf) lf) (nd (o467_0 P) lf lf))) (nd (o115_0 P) (nd (o179_0 P) (nd (o307_0 P) (nd (o563_0 P) lf lf) lf) (nd (o435_0 P) lf lf)) (nd (o243_0 P) (nd (o371_0 P) (nd (o627_0 P) lf lf) lf) (nd (o499_0 P) lf lf))))) (nd (o27_0 P) (nd (o43_0 P) (nd (o75_0 P) (nd (o139_0 P) (nd (o267_0 P) (nd (o523_0 P) lf lf) lf) (nd (o395_0 P) (nd (o651_0 P) lf lf) lf)) (nd (o203_0 P) (nd (o331_0 P) (nd (o587_0 P) lf lf) lf) (nd (o459_0 P) lf lf))) (nd (o107_0 P) (nd (o171_0 P) (nd (o299_0 P) (nd (o555_0 P) lf lf) lf) (nd (o427_0 P) lf lf)) (nd (o235_0 P) (nd (o363_0 P) (nd (o619_0 P) lf lf) lf) (nd (o491_0 P) lf lf)))) (nd (o59_0 P) (nd (o91_0 P) (nd (o155_0 P) (nd (o283_0 P) (nd (o539_0 P) lf lf) lf) (nd (o411_0 P) lf lf)) (nd (o219_0 P) (nd (o347_0 P) (nd (o603_0 P) lf lf) lf) (nd (o475_0 P) lf lf))) (nd (o123_0 P) (nd (o187_0 P) (nd (o315_0 P) (nd (o571_0 P) lf lf) lf) (nd (o443_0 P) lf lf)) (nd (o251_0 P) (nd (o379_0 P) (nd (o635_0 P) lf lf) lf) (nd (o507_0 P) lf lf))))))) (nd (PySem.W.boot_o_5 P) (nd (PySem.W.boot_o_9 P) (nd (o17_0 P) (nd (o33_0 P) (nd (o65_0 P) (nd (o129_0 P) (nd (o257_0 P) (nd (o513_0 P) lf lf) lf) (nd (o385_0 P) (nd (o641_0 P) lf lf) lf)) (nd (o193_0 P) (nd (o321_0 P) (nd (o577_0 P) lf lf) lf) (nd (o449_0 P) lf lf))) (nd (o97_0 P) (nd (o161_0 P) (nd (o289_0 P) (nd (o545_0 P) lf lf) lf) (nd (o417_0 P) lf lf)) (nd (o225_0 P) (nd (o353_0 P) (nd (o609_0 P) lf lf) lf) (nd (o481_0 P) lf lf)))) (nd (o49_0 P) (nd (o81_0 P) (nd (o145_0 P) (nd (o273_0 P) (nd (o529_0 P) lf lf) lf) (nd (o401_0 P) lf lf)) (nd (o209_0 P) (nd (o337_0 P) (nd (o593_0 P) lf lf) lf) (nd (o465_0 P) lf lf))) (nd (o113_0 P) (nd (o177_0 P) (nd (o305_0 P) (nd (o561_0 P) lf lf) lf) (nd (o433_0 P) lf lf)) (nd (o241_0 P) (nd (o369_0 P) (nd (o625_0 P) lf lf) lf) (nd (o497_0 P) lf lf))))) (nd (o25_0 P) (nd (o41_0 P) (nd (o73_0 P) (nd (o137_0 P) (nd (o265_0 P) (nd (o521_0 P) lf lf) lf) (nd (o393_0 P) (nd (o649_0 P) lf lf) lf)) (nd (o201_0 P) (nd (o329_0 P) (nd (o585_0 P) lf lf) lf) (nd (o457_0 P) lf lf))) (nd (o105_0 P) (nd (o169_0 P) (nd (o297_0 P) (nd (o553_0 P) lf lf) lf) (nd (o425_0 P) lf lf)) (nd (o233_0 P) (nd (o361_0 P) (nd (o617_0 P) lf lf) lf) (nd (o489_0 P) lf lf)))) (nd (o57_0 P) (nd (o89_0 P) (nd (o153_0 P) (nd (o281_0 P) (nd (o537_0 P) lf lf) lf) (nd (o409_0 P) lf lf)) (nd (o217_0 P) (nd (o345_0 P) (nd (o601_0 P) lf lf) lf) (nd (o473_0 P) lf lf))) (nd (o121_0 P) (nd (o185_0 P) (nd (o313_0 P) (nd (o569_0 P) lf lf) lf) (nd (o441_0 P) lf lf)) (nd (o249_0 P) (nd (o377_0 P) (nd (o633_0 P) lf lf) lf) (nd (o505_0 P) lf lf)))))) (nd (o13_0 P) (nd (o21_0 P) (nd (o37_0 P) (nd (o69_0 P) (nd (o133_0 P) (nd (o261_0 P) (nd (o517_0 P) lf lf) lf) (nd (o389_0 P) (nd (o645_0 P) lf lf) lf)) (nd (o197_0 P) (nd (o325_0 P) (nd (o581_0 P) lf lf) lf) (nd (o453_0 P) lf lf))) (nd (o101_0 P) (nd (o165_0 P) (nd (o293_0 P) (nd (o549_0 P) lf lf) lf) (nd (o421_0 P) lf lf)) (nd (o229_0 P) (nd (o357_0 P) (nd (o613_0 P) lf lf) lf) (nd (o485_0 P) lf lf)))) (nd (o53_0 P) (nd (o85_0 P) (nd (o149_0 P) (nd (o277_0 P) (nd (o533_0 P) lf lf) lf) (nd (o405_0 P) lf lf)) (nd (o213_0 P) (nd (o341_0 P) (nd (o597_0 P) lf lf) lf) (nd (o469_0 P) lf lf))) (nd (o117_0 P) (nd (o181_0 P) (nd (o309_0 P) (nd (o565_0 P) lf lf) lf) (nd (o437_0 P) lf lf)) (nd (o245_0 P) (nd (o373_0 P) (nd (o629_0 P) lf lf) lf) (nd (o501_0 P) lf lf))))) (nd (o29_0 P) (nd (o45_0 P) (nd (o77_0 P) (nd (o141_0 P) (nd (o269_0 P) (nd (o525_0 P) lf lf) lf) (nd (o397_0 P) lf lf)) (nd (o205_0 P) (nd (o333_0 P) (nd (o589_0 P) lf lf) lf) (nd (o461_0 P) lf lf))) (nd (o109_0 P) (nd (o173_0 P) (nd (o301_0 P) (nd (o557_0 P) lf lf) lf) (nd (o429_0 P) lf lf)) (nd (o237_0 P) (nd (o365_0 P) (nd (o621_0 P) lf lf) lf) (nd (o493_0 P) lf lf)))) (nd (o61_0 P) (nd (o93_0 P) (nd (o157_0 P) (nd (o285_0 P) (nd (o541_0 P) lf lf) lf) (nd (o413_0 P) lf lf)) (nd (o221_0 P) (nd (o349_0 P) (nd (o605_0 P) lf lf) lf) (nd (o477_0 P) lf lf))) (nd (o125_0 P) (nd (o189_0 P) (nd (o317_0 P) (nd (o573_0 P) lf lf) lf) (nd (o445_0 P) lf lf)) (nd (o253_0 P) (nd (o381_0 P) (nd (o637_0 P) lf lf) lf) (nd (o509_0 P) lf lf)))))))) (nd (PySem.W.boot_o_2 P) (nd (PySem.W.boot_o_4 P) (nd (PySem.W.boot_o_8 P) (nd (o16_0 P) (nd (o32_0 P) (nd (o64_0 P) (nd (o128_0 P) (nd (o256_0 P) (nd (o512_0 P) lf lf) lf) (nd (o384_0 P) (nd (o640_0 P) lf lf) lf)) (nd (o192_0 P) (nd (o320_0 P) (nd (o576_0 P) lf lf) lf) (nd (o448_0 P) lf lf))) (nd (o96_0 P) (nd (o160_0 P) (nd (o288_0 P) (nd (o544_0 P) lf lf) lf) (nd (o416_0 P) lf lf)) (nd (o224_0 P) (nd (o352_0 P) (nd (o608_0 P) lf lf) lf) (nd (o480_0 P) lf lf)))) (nd (o48_0 P) (nd (o80_1 P) (nd (o144_0 P) (nd (o272_0 P) (nd (o528_0 P) lf lf) lf) (nd (o400_0 P) lf lf)) (nd (o208_0 P) (nd (o336_0 P) (nd (o592_0 P) lf lf) lf) (nd (o464_0 P) lf lf))) (nd (o112_0 P) (nd (o176_0 P) (nd (o304_0 P) (nd (o560_0 P) lf lf) lf) (nd (o432_0 P) lf lf)) (nd (o240_0 P) (nd (o368_0 P) (nd (o624_0 P) lf lf) lf) (nd (o496_0 P) lf lf))))) (nd (o24_0 P) (nd (o40_0 P) (nd (o72_0 P) (nd (o136_0 P) (nd (o264_0 P) (nd (o520_0 P) lf lf) lf) (nd (o392_0 P) (nd (o648_0 P) lf lf) lf)) (nd (o200_0 P) (nd (o328_0 P) (nd (o584_0 P) lf lf) lf) (nd (o456_0 P) lf lf))) (nd (o104_0 P) (nd (o168_0 P) (nd (o296_0 P) (nd (o552_0 P) lf lf) lf) (nd (o424_0 P) lf lf)) (nd (o232_0 P) (nd (o360_0 P) (nd (o616_0 P) lf lf) lf) (nd (o488_0 P) lf lf)))) (nd (o56_0 P) (nd (o88_0 P) (nd (o152_0 P) (nd (o280_0 P) (nd (o536_0 P) lf lf) lf) (nd (o408_0 P) lf lf)) (nd (o216_0 P) (nd (o344_0 P) (nd (o600_0 P) lf lf) lf) (nd (o472_0 P) lf lf))) (nd (o120_0 P) (nd (o184_0 P) (nd (o312_0 P) (nd (o568_0 P) lf lf) lf) (nd (o440_0 P) lf lf)) (nd (o248_0 P) (nd (o376_0 P) (nd (o632_0 P) lf lf) lf) (nd (o504_0 P) lf lf)))))) (nd (o12_3 P) (nd (o20_0 P) (nd (o36_0 P) (nd (o68_0 P) (nd (o132_0 P) (nd (o260_0 P) (nd (o516_0 P) lf lf) lf) (nd (o388_0 P) (nd (o644_0 P) lf lf) lf)) (nd (o196_0 P) (nd (o324_0 P) (nd (o580_0 P) lf lf) lf) (nd (o452_0 P) lf lf))) (nd (o100_0 P) (nd (o164_1 P) (nd (o292_0 P) (nd (o548_0 P) lf lf) lf) (nd (o420_0 P) lf lf)) (nd (o228_0 P) (nd (o356_0 P) (nd (o612_0 P) lf lf) lf) (nd (o484_0 P) lf lf)))) (nd (o52_0 P) (nd (o84_0 P) (nd (o148_0 P) (nd (o276_0 P) (nd (o532_0 P) lf lf) lf) (nd (o404_0 P) lf lf)) (nd (o212_0 P) (nd (o340_0 P) (nd (o596_0 P) lf lf) lf) (nd (o468_0 P) lf lf))) (nd (o116_0 P) (nd (o180_0 P) (nd (o308_0 P) (nd (o564_0 P) lf lf) lf) (nd (o436_0 P) lf lf)) (nd (o244_0 P) (nd (o372_0 P) (nd (o628_0 P) lf lf) lf) (nd (o500_0 P) lf lf))))) (nd (o28_0 P) (nd (o44_0 P) (nd (o76_0 P) (nd (o140_0 P) (nd (o268_0 P) (nd (o524_0 P) lf lf) lf) (nd (o396_0 P) lf lf)) (nd (o204_0 P) (nd (o332_0 P) (nd (o588_0 P) lf lf) lf) (nd (o460_0 P) lf lf))) (nd (o108_0 P) (nd (o172_0 P) (nd (o300_0 P) (nd (o556_0 P) lf lf) lf) (nd (o428_0 P) lf lf)) (nd (o236_0 P) (nd (o364_0 P) (nd (o620_0 P) lf lf) lf) (nd (o492_0 P) lf lf)))) (nd (o60_0 P) (nd (o92_0 P) (nd (o156_0 P) (nd (o284_0 P) (nd (o540_0 P) lf lf) lf) (nd (o412_0 P) lf lf)) (nd (o220_0 P) (nd (o348_0 P) (nd (o604_0 P) lf lf) lf) (nd (o476_0 P) lf lf))) (nd (o124_0 P) (nd (o188_0 P) (nd (o316_0 P) (nd (o572_0 P) lf lf) lf) (nd (o444_0 P) lf lf)) (nd (o252_0 P) (nd (o380_0 P) (nd (o636_0 P) lf lf) lf) (nd (o508_0 P) lf lf))))))) (nd (PySem.W.boot_o_6 P) (nd (PySem.W.boot_o_10 P) (nd (o18_0 P) (nd (o34_0 P) (nd (o66_0 P) (nd (o130_0 P) (nd (o258_0 P) (nd (o514_0 P) lf lf) lf) (nd (o386_0 P) (nd (o642_0 P) lf lf) lf)) (nd (o194_0 P) (nd (o322_0 P) (nd (o578_0 P) lf lf) lf) (nd (o450_0 P) lf lf))) (nd (o98_0 P) (nd (o162_0 P) (nd (o290_0 P) (nd (o546_0 P) lf lf) lf) (nd (o418_0 P) lf lf)) (nd (o226_0 P) (nd (o354_0 P) (nd (o610_0 P) lf lf) lf) (nd (o482_0 P) lf lf)))) (nd (o50_0 P) (nd (o82_0 P) (nd (o146_0 P) (nd (o274_0 P) (nd (o530_0 P) lf lf) lf) (nd (o402_0 P) lf lf)) (nd (o210_0 P) (nd (o338_0 P) (nd (o594_0 P) lf lf) lf) (nd (o466_0 P) lf lf))) (nd (o114_0 P) (nd (o178_0 P) (nd (o306_0 P) (nd (o562_0 P) lf lf) lf) (nd (o434_0 P) lf lf)) (nd (o242_0 P) (nd (o370_0 P) (nd (o626_0 P) lf lf) lf) (nd (o498_0 P) lf lf))))) (nd (o26_0 P) (nd (o42_0 P) (nd (o74_0 P) (nd (o138_0 P) (nd (o266_0 P) (nd (o522_0 P) lf lf) lf) (nd (o394_0 P) (nd (o650_0 P) lf lf) lf)) (nd (o202_0 P) (nd (o330_0 P) (nd (o586_0 P) lf lf) lf) (nd (o458_0 P) lf lf))) (nd (o106_0 P) (nd (o170_0 P) (nd (o298_0 P) (nd (o554_0 P) lf lf) lf) (nd (o426_0 P) lf lf)) (nd (o234_0 P) (nd (o362_0 P) (nd (o618_0 P) lf lf) lf) (nd (o490_0 P) lf lf)))) (nd (o58_0 P) (nd (o90_0 P) (nd (o154_0 P) (nd (o282_0 P) (nd (o538_0 P) lf lf) lf) (nd (o410_0 P) lf lf)) (nd (o218_0 P) (nd (o346_0 P) (nd (o602_0 P) lf lf) lf) (nd (o474_0 P) lf lf))) (nd (o122_0 P) (nd (o186_0 P) (nd (o314_0 P) (nd (o570_0 P) lf lf) lf) (nd (o442_0 P) lf lf)) (nd (o250_0 P) (nd (o378_0 P) (nd (o634_0 P) lf lf) lf) (nd (o506_0 P) lf lf)))))) (nd (o14_0 P) (nd (o22_0 P) (nd (o38_0 P) (nd (o70_0 P) (nd (o134_0 P) (nd (o262_0 P) (nd (o518_0 P) lf lf) lf) (nd (o390_0 P) (nd (o646_0 P) lf lf) lf)) (nd (o198_0 P) (nd (o326_0 P) (nd (o582_0 P) lf lf) lf) (nd (o454_0 P) lf lf))) (nd (o102_0 P) (nd (o166_0 P) (nd (o294_0 P) (nd (o550_0 P) lf lf) lf) (nd (o422_0 P) lf lf)) (nd (o230_0 P) (nd (o358_0 P) (nd (o614_0 P) lf lf) lf) (nd (o486_0 P) lf lf)))) (nd (o54_0 P) (nd (o86_0 P) (nd (o150_0 P) (nd (o278_0 P) (nd (o534_0 P) lf lf) lf) (nd (o406_0 P) lf lf)) (nd (o214_0 P) (nd (o342_0 P) (nd (o598_0 P) lf lf) lf) (nd (o470_0 P) lf lf))) (nd (o118_0 P) (nd (o182_0 P) (nd (o310_0 P) (nd (o566_0 P) lf lf) lf) (nd (o438_0 P) lf lf)) (nd (o246_0 P) (nd (o374_0 P) (nd (o630_0 P) lf lf) lf) (nd (o502_0 P) lf lf))))) (nd (o30_0 P) (nd (o46_0 P) (nd (o78_0 P) (nd (o142_0 P) (nd (o270_0 P) (nd (o526_0 P) lf lf) lf) (nd (o398_0 P) lf lf)) (nd (o206_0 P) (nd (o334_0 P) (nd (o590_0 P) lf lf) lf) (nd (o462_0 P) lf lf))) (nd (o110_0 P) (nd (o174_0 P) (nd (o302_0 P) (nd (o558_0 P) lf lf) lf) (nd (o430_0 P) lf lf)) (nd (o238_0 P) (nd (o366_0 P) (nd (o622_0 P) lf lf) lf) (nd (o494_0 P) lf lf)))) (nd (o62_0 P) (nd (o94_0 P) (nd (o158_0 P) (nd (o286_0 P) (nd (o542_0 P) lf lf) lf) (nd (o414_0 P) lf lf)) (nd (o222_0 P) (nd (o350_0 P) (nd (o606_0 P) lf lf) lf) (nd (o478_0 P) lf lf))) (nd (o126_0 P) (nd (o190_0 P) (nd (o318_0 P) (nd (o574_0 P) lf lf) lf) (nd (o446_0 P) lf lf)) (nd (o254_0 P) (nd (o382_0 P) (nd (o638_0 P) lf lf) lf) (nd (o510_0 P) lf lf)))))))))
def s4 (w : World) (os : OsState) : SharedT := ⟨t4 w.params, 652, { }, #[], ⟨0, 0, 0, 0⟩, 1026, os⟩
abbrev l4 : List Stmt := (bE.drop 26).take 8
theorem seg4 (w : World) (os : OsState) : segRunT treeTable pr w 11 annV 1 2257 (s3 w os) (piecesOf l4 env cE ⟨173, 0, 173, 9⟩ fB) = some (.next, s4 w os, cE, ⟨271, 0, 288, 106⟩) := seg_q (by kernel_rfl)
def o3_4 (P : Params) : Obj := ⟨(.type "dict"), none, (.dict (List.toArray (zd P "__name__" 165 (.str "law_surenear_k22_outcomes_of_one_fact" 1347) :: zd P "__doc__" 166 .none :: zd P "__package__" 167 .none :: zd P "__loader__" 168 (.builtin "__main__.__loader__#opaque") :: zd P "__spec__" 169 .none :: zd P "__annotations__" 170 (.ref 6) :: zd P "__builtins__" 171 (.ref 4) :: zd P "__file__" 173 (.str "/claim/cut.py" 172) :: zd P "__cached__" 174 .none :: zd P "_wall" 193 (.ref 21) :: zd P "Fact" 270 (.ref 80) :: zd P "same_value" 280 (.ref 91) :: zd P "compare" 291 (.ref 98) :: zd P "written_value" 298 (.ref 105) :: zd P "same_values" 308 (.ref 112) :: zd P "Condition" 375 (.ref 164) :: zd P "Every" 399 (.ref 185) :: zd P "Has" 432 (.ref 211) :: zd P "Compare" 469 (.ref 237) :: zd P "OneOf" 504 (.ref 263) :: zd P "Both" 539 (.ref 289) :: zd P "Either" 574 (.ref 315) :: zd P "Negation" 607 (.ref 341) :: zd P "written_part" 614 (.ref 350) :: zd P "written" 620 (.ref 355) :: zd P "satisfies" 630 (.ref 362) :: zd P "same_kind" 638 (.ref 369) :: zd P "is_one_of" 647 (.ref 376) :: zd P "is_integer" 654 (.ref 383) :: zd P "range_passes" 664 (.ref 390) :: zd P "OPPOSITES" 683 (.ref 391) :: zd P "is_about" 691 (.ref 398) :: zd P "FieldFact" 736 (.ref 429) :: zd P "Range" 798 (.ref 475) :: zd P "Values" 858 (.ref 521) :: zd P "Counts" 914 (.ref 566) :: zd P "Names" 965 (.ref 606) :: zd P "Part" 1025 (.ref 647) :: zd P "Parts" 1106 (.ref 717) :: zd P "Cell" 1166 (.ref 764) :: zd P "Box" 1234 (.ref 818) :: zd P "Norms" 1294 (.ref 865) :: zd P "Differ" 1346 (.ref 905) :: zd P "_law_row" 1360 (.ref 914) :: zd P "_law_next" 1369 (.ref 921) :: zd P "_law_made" 1375 (.ref 926) :: zd P "_law_built" 1382 (.ref 933) :: zd P "_law_compares" 1391 (.ref 940) :: zd P "_law_worth_passes" 1399 (.ref 947) :: zd P "_law_outcomes" 1405 (.ref 952) :: zd P "_law_field_fact" 1414 (.ref 959) :: zd P "_law_leaf" 1420 (.ref 964) :: zd P "law" 1433 (.ref 971) :: [])) 53), #[]⟩
def o12_4 (P : Params) : Obj := ⟨.none, none, (.fields (List.toArray ((.int 1 0) :: (.int 0 0) :: (.ref 20) :: (.int 5 0) :: (.int 0 0) :: (.ref 27) :: (.int 28 0) :: (.int 0 0) :: (.ref 90) :: (.int 31 0) :: (.int 0 0) :: (.ref 97) :: (.int 43 0) :: (.int 0 0) :: (.ref 104) :: (.int 49 0) :: (.int 0 0) :: (.ref 111) :: (.int 56 0) :: (.int 0 0) :: (.ref 118) :: (.int 75 0) :: (.int 0 0) :: (.ref 174) :: (.int 79 0) :: (.int 0 0) :: (.ref 193) :: (.int 86 0) :: (.int 0 0) :: (.ref 219) :: (.int 95 0) :: (.int 0 0) :: (.ref 245) :: (.int 103 0) :: (.int 0 0) :: (.ref 271) :: (.int 111 0) :: (.int 0 0) :: (.ref 297) :: (.int 119 0) :: (.int 0 0) :: (.ref 323) :: (.int 126 0) :: (.int 0 0) :: (.ref 349) :: (.int 130 0) :: (.int 0 0) :: (.ref 354) :: (.int 146 0) :: (.int 0 0) :: (.ref 361) :: (.int 152 0) :: (.int 0 0) :: (.ref 368) :: (.int 154 0) :: (.int 0 0) :: (.ref 375) :: (.int 159 0) :: (.int 0 0) :: (.ref 382) :: (.int 161 0) :: (.int 0 0) :: (.ref 389) :: (.int 174 0) :: (.int 0 0) :: (.ref 397) :: (.int 176 0) :: (.int 0 0) :: (.ref 404) :: (.int 194 0) :: (.int 0 0) :: (.ref 437) :: (.int 220 0) :: (.int 0 0) :: (.ref 483) :: (.int 240 0) :: (.int 0 0) :: (.ref 529) :: (.int 256 0) :: (.int 0 0) :: (.ref 574) :: (.int 271 0) :: (.int 0 0) :: (.ref 614) :: (.int 289 0) :: (.int 0 0) :: (.ref 657) :: (.int 314 0) :: (.int 0 0) :: (.ref 725) :: (.int 331 0) :: (.int 0 0) :: (.ref 772) :: (.int 351 0) :: (.int 0 0) :: (.ref 826) :: (.int 368 0) :: (.int 0 0) :: (.ref 873) :: (.int 383 0) :: (.int 0 0) :: (.ref 913) :: (.int 395 0) :: (.int 0 0) :: (.ref 920) :: (.int 402 0) :: (.int 0 0) :: (.ref 925) :: (.int 420 0) :: (.int 0 0) :: (.ref 932) :: (.int 434 0) :: (.int 0 0) :: (.ref 939) :: (.int 446 0) :: (.int 0 0) :: (.ref 946) :: (.int 450 0) :: (.int 0 0) :: (.ref 951) :: (.int 465 0) :: (.int 0 0) :: (.ref 958) :: (.int 473 0) :: (.int 0 0) :: (.ref 963) :: (.int 482 0) :: (.int 0 0) :: (.ref 970) :: []))), #[]⟩
def o80_2 (P : Params) : Obj := ⟨(.type "type"), none, (.cls ⟨"Fact", [(.type "object")], [(.ref 80), (.type "object")], 79, "Fact", true, [], [(.ref 429), (.ref 566), (.ref 606), (.ref 717), (.ref 764), (.ref 818), (.ref 865), (.ref 905)], false, none, false⟩), #[none, none, (some (.str "Fact" 196)), (some (.str "Fact" 204)), (some (.builtin "object.__new__")), (some (.bool true))]⟩
def o652_0 (P : Params) : Obj := ⟨(.type "tuple"), none, (.seq #[(.ref 80)] 0), #[]⟩
def o653_0 (P : Params) : Obj := ⟨(.type "builtin_function_or_method"), none, (.fields #[(.builtin "type.__prepare__"), (.type "type")]), #[]⟩
def o654_0 (P : Params) : Obj := ⟨(.type "dict"), none, (.dict #[zd P "__module__" 1033 (.str "surenear.facts.vectors" 966), zd P "__qualname__" 1035 (.str "Parts" 1034), zd P "__firstlineno__" 1037 (.int 289 1036), zd P "__init__" 1045 (.ref 665), zd P "fits" 1053 (.ref 672), zd P "holds" 1061 (.ref 679), zd P "apart" 1068 (.ref 686), zd P "covers" 1076 (.ref 693), zd P "least_distance" 1084 (.ref 700), zd P "most_product" 1092 (.ref 707), zd P "__eq__" 1100 (.ref 714), zd P "__static_attributes__" 1102 (.ref 715)] 12), #[]⟩
def o655_0 (P : Params) : Obj := ⟨(.type "tuple"), none, (.seq #[] 0), #[]⟩
def o656_0 (P : Params) : Obj := ⟨.none, none, (.fields (List.toArray ((.int 291 0) :: (.int 4 0) :: (.ref 664) :: (.int 294 0) :: (.int 4 0) :: (.ref 671) :: (.int 297 0) :: (.int 4 0) :: (.ref 678) :: (.int 300 0) :: (.int 4 0) :: (.ref 685) :: (.int 303 0) :: (.int 4 0) :: (.ref 692) :: (.int 306 0) :: (.int 4 0) :: (.ref 699) :: (.int 309 0) :: (.int 4 0) :: (.ref 706) :: (.int 312 0) :: (.int 4 0) :: (.ref 713) :: []))), #[]⟩
def o657_0 (P : Params) : Obj := ⟨(.type "code"), none, (.fields #[(.str "Parts" 1028), (.str "Parts" 1029), (.str "/claim/cut.py" 1030), (.int 289 0), (.int 0 0), (.int 0 0), (.int 0 0), (.int 0 0), (.ref 655), (.bool false), (.int 181 0), (.ref 656), .none, .none, .none, .none, (.int 1031 0), (.int 289 0), (.str "/claim/cut.py" 1032)]), #[]⟩
def o658_0 (P : Params) : Obj := ⟨(.type "frame"), none, .plain, #[(some (.ref 657)), (some (.ref 3)), (some (.ref 654)), none, (some (.str "surenear.facts.vectors" 966)), none, (some (.ref 0))]⟩
def o659_0 (P : Params) : Obj := ⟨(.type "tuple"), none, (.seq #[] 0), #[]⟩
def o660_0 (P : Params) : Obj := ⟨.none, none, (.fields #[]), #[]⟩
def o661_0 (P : Params) : Obj := ⟨(.type "tuple"), none, (.seq #[(.str "self" 1041), (.str "parts" 1042)] 0), #[]⟩
def o662_0 (P : Params) : Obj := ⟨(.type "tuple"), none, (.seq #[] 0), #[]⟩
def o663_0 (P : Params) : Obj := ⟨.none, none, (.func (zf (mS 34 0) "__init__" "Parts.__init__" 0 [] .none .none .none .none none .none .none 0)), #[]⟩
def o664_0 (P : Params) : Obj := ⟨(.type "code"), none, (.fields #[(.str "__init__" 1038), (.str "Parts.__init__" 1039), (.str "/claim/cut.py" 1040), (.int 291 0), (.int 2 0), (.int 0 0), (.int 0 0), (.int 3 0), (.ref 659), (.bool true), (.int 181 0), (.ref 660), .none, (.ref 661), (.ref 662), (.ref 663), (.int 1043 0), (.int 291 0), (.str "/claim/cut.py" 1044)]), #[]⟩
def o665_0 (P : Params) : Obj := ⟨(.type "function"), none, (.func (zf (mS 34 0) "__init__" "Parts.__init__" 3 [] .none .none .none (.str "surenear.facts.vectors" 966) none (.ref 664) .none 0)), #[]⟩
def o666_0 (P : Params) : Obj := ⟨(.type "tuple"), none, (.seq #[] 0), #[]⟩
def o667_0 (P : Params) : Obj := ⟨.none, none, (.fields #[]), #[]⟩
def o668_0 (P : Params) : Obj := ⟨(.type "tuple"), none, (.seq #[(.str "self" 1049), (.str "q" 1050)] 0), #[]⟩
def o669_0 (P : Params) : Obj := ⟨(.type "tuple"), none, (.seq #[] 0), #[]⟩
def o670_0 (P : Params) : Obj := ⟨.none, none, (.func (zf (mS 34 1) "fits" "Parts.fits" 0 [] .none .none .none .none none .none .none 0)), #[]⟩
def o671_0 (P : Params) : Obj := ⟨(.type "code"), none, (.fields #[(.str "fits" 1046), (.str "Parts.fits" 1047), (.str "/claim/cut.py" 1048), (.int 294 0), (.int 2 0), (.int 0 0), (.int 0 0), (.int 3 0), (.ref 666), (.bool true), (.int 181 0), (.ref 667), .none, (.ref 668), (.ref 669), (.ref 670), (.int 1051 0), (.int 294 0), (.str "/claim/cut.py" 1052)]), #[]⟩
def o672_0 (P : Params) : Obj := ⟨(.type "function"), none, (.func (zf (mS 34 1) "fits" "Parts.fits" 3 [] .none .none .none (.str "surenear.facts.vectors" 966) none (.ref 671) .none 0)), #[]⟩
def o673_0 (P : Params) : Obj := ⟨(.type "tuple"), none, (.seq #[] 0), #[]⟩
def o674_0 (P : Params) : Obj := ⟨.none, none, (.fields #[]), #[]⟩
def o675_0 (P : Params) : Obj := ⟨(.type "tuple"), none, (.seq #[(.str "self" 1057), (.str "record" 1058)] 0), #[]⟩
def o676_0 (P : Params) : Obj := ⟨(.type "tuple"), none, (.seq #[] 0), #[]⟩
def o677_0 (P : Params) : Obj := ⟨.none, none, (.func (zf (mS 34 2) "holds" "Parts.holds" 0 [] .none .none .none .none none .none .none 0)), #[]⟩
def o678_0 (P : Params) : Obj := ⟨(.type "code"), none, (.fields #[(.str "holds" 1054), (.str "Parts.holds" 1055), (.str "/claim/cut.py" 1056), (.int 297 0), (.int 2 0), (.int 0 0), (.int 0 0), (.int 3 0), (.ref 673), (.bool true), (.int 181 0), (.ref 674), .none, (.ref 675), (.ref 676), (.ref 677), (.int 1059 0), (.int 297 0), (.str "/claim/cut.py" 1060)]), #[]⟩
def o679_0 (P : Params) : Obj := ⟨(.type "function"), none, (.func (zf (mS 34 2) "holds" "Parts.holds" 3 [] .none .none .none (.str "surenear.facts.vectors" 966) none (.ref 678) .none 0)), #[]⟩
def o680_0 (P : Params) : Obj := ⟨(.type "tuple"), none, (.seq #[] 0), #[]⟩
def o681_0 (P : Params) : Obj := ⟨.none, none, (.fields #[]), #[]⟩
def o682_0 (P : Params) : Obj := ⟨(.type "tuple"), none, (.seq #[(.str "self" 1065)] 0), #[]⟩
def o683_0 (P : Params) : Obj := ⟨(.type "tuple"), none, (.seq #[] 0), #[]⟩
def o684_0 (P : Params) : Obj := ⟨.none, none, (.func (zf (mS 34 3) "apart" "Parts.apart" 0 [] .none .none .none .none none .none .none 0)), #[]⟩
def o685_0 (P : Params) : Obj := ⟨(.type "code"), none, (.fields #[(.str "apart" 1062), (.str "Parts.apart" 1063), (.str "/claim/cut.py" 1064), (.int 300 0), (.int 1 0), (.int 0 0), (.int 0 0), (.int 3 0), (.ref 680), (.bool true), (.int 181 0), (.ref 681), .none, (.ref 682), (.ref 683), (.ref 684), (.int 1066 0), (.int 300 0), (.str "/claim/cut.py" 1067)]), #[]⟩
def o686_0 (P : Params) : Obj := ⟨(.type "function"), none, (.func (zf (mS 34 3) "apart" "Parts.apart" 3 [] .none .none .none (.str "surenear.facts.vectors" 966) none (.ref 685) .none 0)), #[]⟩
def o687_0 (P : Params) : Obj := ⟨(.type "tuple"), none, (.seq #[] 0), #[]⟩
def o688_0 (P : Params) : Obj := ⟨.none, none, (.fields #[]), #[]⟩
def o689_0 (P : Params) : Obj := ⟨(.type "tuple"), none, (.seq #[(.str "self" 1072), (.str "size" 1073)] 0), #[]⟩
def o690_0 (P : Params) : Obj := ⟨(.type "tuple"), none, (.seq #[] 0), #[]⟩
def o691_0 (P : Params) : Obj := ⟨.none, none, (.func (zf (mS 34 4) "covers" "Parts.covers" 0 [] .none .none .none .none none .none .none 0)), #[]⟩
def o692_0 (P : Params) : Obj := ⟨(.type "code"), none, (.fields #[(.str "covers" 1069), (.str "Parts.covers" 1070), (.str "/claim/cut.py" 1071), (.int 303 0), (.int 2 0), (.int 0 0), (.int 0 0), (.int 3 0), (.ref 687), (.bool true), (.int 181 0), (.ref 688), .none, (.ref 689), (.ref 690), (.ref 691), (.int 1074 0), (.int 303 0), (.str "/claim/cut.py" 1075)]), #[]⟩
def o693_0 (P : Params) : Obj := ⟨(.type "function"), none, (.func (zf (mS 34 4) "covers" "Parts.covers" 3 [] .none .none .none (.str "surenear.facts.vectors" 966) none (.ref 692) .none 0)), #[]⟩
def o694_0 (P : Params) : Obj := ⟨(.type "tuple"), none, (.seq #[] 0), #[]⟩
def o695_0 (P : Params) : Obj := ⟨.none, none, (.fields #[]), #[]⟩
def o696_0 (P : Params) : Obj := ⟨(.type "tuple"), none, (.seq #[(.str "self" 1080), (.str "q" 1081)] 0), #[]⟩
def o697_0 (P : Params) : Obj := ⟨(.type "tuple"), none, (.seq #[] 0), #[]⟩
def o698_0 (P : Params) : Obj := ⟨.none, none, (.func (zf (mS 34 5) "least_distance" "Parts.least_distance" 0 [] .none .none .none .none none .none .none 0)), #[]⟩
def o699_0 (P : Params) : Obj := ⟨(.type "code"), none, (.fields #[(.str "least_distance" 1077), (.str "Parts.least_distance" 1078), (.str "/claim/cut.py" 1079), (.int 306 0), (.int 2 0), (.int 0 0), (.int 0 0), (.int 3 0), (.ref 694), (.bool true), (.int 181 0), (.ref 695), .none, (.ref 696), (.ref 697), (.ref 698), (.int 1082 0), (.int 306 0), (.str "/claim/cut.py" 1083)]), #[]⟩
def o700_0 (P : Params) : Obj := ⟨(.type "function"), none, (.func (zf (mS 34 5) "least_distance" "Parts.least_distance" 3 [] .none .none .none (.str "surenear.facts.vectors" 966) none (.ref 699) .none 0)), #[]⟩
def o701_0 (P : Params) : Obj := ⟨(.type "tuple"), none, (.seq #[] 0), #[]⟩
def o702_0 (P : Params) : Obj := ⟨.none, none, (.fields #[]), #[]⟩
def o703_0 (P : Params) : Obj := ⟨(.type "tuple"), none, (.seq #[(.str "self" 1088), (.str "q" 1089)] 0), #[]⟩
def o704_0 (P : Params) : Obj := ⟨(.type "tuple"), none, (.seq #[] 0), #[]⟩
def o705_0 (P : Params) : Obj := ⟨.none, none, (.func (zf (mS 34 6) "most_product" "Parts.most_product" 0 [] .none .none .none .none none .none .none 0)), #[]⟩
def o706_0 (P : Params) : Obj := ⟨(.type "code"), none, (.fields #[(.str "most_product" 1085), (.str "Parts.most_product" 1086), (.str "/claim/cut.py" 1087), (.int 309 0), (.int 2 0), (.int 0 0), (.int 0 0), (.int 3 0), (.ref 701), (.bool true), (.int 181 0), (.ref 702), .none, (.ref 703), (.ref 704), (.ref 705), (.int 1090 0), (.int 309 0), (.str "/claim/cut.py" 1091)]), #[]⟩
def o707_0 (P : Params) : Obj := ⟨(.type "function"), none, (.func (zf (mS 34 6) "most_product" "Parts.most_product" 3 [] .none .none .none (.str "surenear.facts.vectors" 966) none (.ref 706) .none 0)), #[]⟩
def o708_0 (P : Params) : Obj := ⟨(.type "tuple"), none, (.seq #[] 0), #[]⟩
def o709_0 (P : Params) : Obj := ⟨.none, none, (.fields #[]), #[]⟩
def o710_0 (P : Params) : Obj := ⟨(.type "tuple"), none, (.seq #[(.str "self" 1096), (.str "other" 1097)] 0), #[]⟩
def o711_0 (P : Params) : Obj := ⟨(.type "tuple"), none, (.seq #[] 0), #[]⟩
def o712_0 (P : Params) : Obj := ⟨.none, none, (.func (zf (mS 34 7) "__eq__" "Parts.__eq__" 0 [] .none .none .none .none none .none .none 0)), #[]⟩
def o713_0 (P : Params) : Obj := ⟨(.type "code"), none, (.fields #[(.str "__eq__" 1093), (.str "Parts.__eq__" 1094), (.str "/claim/cut.py" 1095), (.int 312 0), (.int 2 0), (.int 0 0), (.int 0 0), (.int 3 0), (.ref 708), (.bool true), (.int 181 0), (.ref 709), .none, (.ref 710), (.ref 711), (.ref 712), (.int 1098 0), (.int 312 0), (.str "/claim/cut.py" 1099)]), #[]⟩
def o714_0 (P : Params) : Obj := ⟨(.type "function"), none, (.func (zf (mS 34 7) "__eq__" "Parts.__eq__" 3 [] .none .none .none (.str "surenear.facts.vectors" 966) none (.ref 713) .none 0)), #[]⟩
def o715_0 (P : Params) : Obj := ⟨(.type "tuple"), none, (.seq #[(.str "parts" 1101)] 0), #[]⟩
def o716_0 (P : Params) : Obj := ⟨(.type "dict"), none, (.dict #[zd P "__module__" 1033 (.str "surenear.facts.vectors" 966), zd P "__firstlineno__" 1037 (.int 289 1036), zd P "__init__" 1045 (.ref 665), zd P "fits" 1053 (.ref 672), zd P "holds" 1061 (.ref 679), zd P "apart" 1068 (.ref 686), zd P "covers" 1076 (.ref 693), zd P "least_distance" 1084 (.ref 700), zd P "most_product" 1092 (.ref 707), zd P "__eq__" 1100 (.ref 714), zd P "__static_attributes__" 1102 (.ref 715), zd P "__doc__" 1103 .none, zd P "__hash__" 1104 .none] 3), #[]⟩
def o717_0 (P : Params) : Obj := ⟨(.type "type"), none, (.cls ⟨"Parts", [(.ref 80)], [(.ref 717), (.ref 80), (.type "object")], 716, "Parts", true, [], [], false, none, false⟩), #[(some (.ref 652)), none, (some (.str "Parts" 1026)), (some (.str "Parts" 1034)), (some (.builtin "object.__new__")), (some (.bool true))]⟩
def o718_0 (P : Params) : Obj := ⟨(.type "super"), none, (.fields #[(.ref 717), (.ref 717), (.ref 717)]), #[]⟩
def o719_0 (P : Params) : Obj := ⟨(.type "builtin_function_or_method"), none, (.fields #[(.builtin "object.__init_subclass__"), (.ref 717)]), #[]⟩
def o720_0 (P : Params) : Obj := ⟨(.type "tuple"), none, (.seq #[(.ref 80)] 0), #[]⟩
def o721_0 (P : Params) : Obj := ⟨(.type "builtin_function_or_method"), none, (.fields #[(.builtin "type.__prepare__"), (.type "type")]), #[]⟩
def o722_0 (P : Params) : Obj := ⟨(.type "dict"), none, (.dict #[zd P "__module__" 1114 (.str "surenear.facts.vectors" 966), zd P "__qualname__" 1116 (.str "Cell" 1115), zd P "__firstlineno__" 1118 (.int 314 1117), zd P "__init__" 1127 (.ref 733), zd P "fits" 1135 (.ref 740), zd P "holds" 1143 (.ref 747), zd P "least_distance" 1151 (.ref 754), zd P "__eq__" 1159 (.ref 761), zd P "__static_attributes__" 1162 (.ref 762)] 9), #[]⟩
def o723_0 (P : Params) : Obj := ⟨(.type "tuple"), none, (.seq #[] 0), #[]⟩
def o724_0 (P : Params) : Obj := ⟨.none, none, (.fields #[(.int 316 0), (.int 4 0), (.ref 732), (.int 320 0), (.int 4 0), (.ref 739), (.int 323 0), (.int 4 0), (.ref 746), (.int 326 0), (.int 4 0), (.ref 753), (.int 329 0), (.int 4 0), (.ref 760)]), #[]⟩
def o725_0 (P : Params) : Obj := ⟨(.type "code"), none, (.fields #[(.str "Cell" 1109), (.str "Cell" 1110), (.str "/claim/cut.py" 1111), (.int 314 0), (.int 0 0), (.int 0 0), (.int 0 0), (.int 0 0), (.ref 723), (.bool false), (.int 181 0), (.ref 724), .none, .none, .none, .none, (.int 1112 0), (.int 314 0), (.str "/claim/cut.py" 1113)]), #[]⟩
def o726_0 (P : Params) : Obj := ⟨(.type "frame"), none, .plain, #[(some (.ref 725)), (some (.ref 3)), (some (.ref 722)), none, (some (.str "surenear.facts.vectors" 966)), none, (some (.ref 0))]⟩
def o727_0 (P : Params) : Obj := ⟨(.type "tuple"), none, (.seq #[] 0), #[]⟩
def o728_0 (P : Params) : Obj := ⟨.none, none, (.fields #[]), #[]⟩
def o729_0 (P : Params) : Obj := ⟨(.type "tuple"), none, (.seq #[(.str "self" 1122), (.str "near" 1123), (.str "rival" 1124)] 0), #[]⟩
def o730_0 (P : Params) : Obj := ⟨(.type "tuple"), none, (.seq #[] 0), #[]⟩
def o731_0 (P : Params) : Obj := ⟨.none, none, (.func (zf (mS 35 0) "__init__" "Cell.__init__" 0 [] .none .none .none .none none .none .none 0)), #[]⟩
def o732_0 (P : Params) : Obj := ⟨(.type "code"), none, (.fields #[(.str "__init__" 1119), (.str "Cell.__init__" 1120), (.str "/claim/cut.py" 1121), (.int 316 0), (.int 3 0), (.int 0 0), (.int 0 0), (.int 3 0), (.ref 727), (.bool true), (.int 181 0), (.ref 728), .none, (.ref 729), (.ref 730), (.ref 731), (.int 1125 0), (.int 316 0), (.str "/claim/cut.py" 1126)]), #[]⟩
def o733_0 (P : Params) : Obj := ⟨(.type "function"), none, (.func (zf (mS 35 0) "__init__" "Cell.__init__" 3 [] .none .none .none (.str "surenear.facts.vectors" 966) none (.ref 732) .none 0)), #[]⟩
def o734_0 (P : Params) : Obj := ⟨(.type "tuple"), none, (.seq #[] 0), #[]⟩
def o735_0 (P : Params) : Obj := ⟨.none, none, (.fields #[]), #[]⟩
def o736_0 (P : Params) : Obj := ⟨(.type "tuple"), none, (.seq #[(.str "self" 1131), (.str "q" 1132)] 0), #[]⟩
def o737_0 (P : Params) : Obj := ⟨(.type "tuple"), none, (.seq #[] 0), #[]⟩
def o738_0 (P : Params) : Obj := ⟨.none, none, (.func (zf (mS 35 1) "fits" "Cell.fits" 0 [] .none .none .none .none none .none .none 0)), #[]⟩
def o739_0 (P : Params) : Obj := ⟨(.type "code"), none, (.fields #[(.str "fits" 1128), (.str "Cell.fits" 1129), (.str "/claim/cut.py" 1130), (.int 320 0), (.int 2 0), (.int 0 0), (.int 0 0), (.int 3 0), (.ref 734), (.bool true), (.int 181 0), (.ref 735), .none, (.ref 736), (.ref 737), (.ref 738), (.int 1133 0), (.int 320 0), (.str "/claim/cut.py" 1134)]), #[]⟩
def o740_0 (P : Params) : Obj := ⟨(.type "function"), none, (.func (zf (mS 35 1) "fits" "Cell.fits" 3 [] .none .none .none (.str "surenear.facts.vectors" 966) none (.ref 739) .none 0)), #[]⟩
def o741_0 (P : Params) : Obj := ⟨(.type "tuple"), none, (.seq #[] 0), #[]⟩
def o742_0 (P : Params) : Obj := ⟨.none, none, (.fields #[]), #[]⟩
def o743_0 (P : Params) : Obj := ⟨(.type "tuple"), none, (.seq #[(.str "self" 1139), (.str "record" 1140)] 0), #[]⟩
def o744_0 (P : Params) : Obj := ⟨(.type "tuple"), none, (.seq #[] 0), #[]⟩
def o745_0 (P : Params) : Obj := ⟨.none, none, (.func (zf (mS 35 2) "holds" "Cell.holds" 0 [] .none .none .none .none none .none .none 0)), #[]⟩
def o746_0 (P : Params) : Obj := ⟨(.type "code"), none, (.fields #[(.str "holds" 1136), (.str "Cell.holds" 1137), (.str "/claim/cut.py" 1138), (.int 323 0), (.int 2 0), (.int 0 0), (.int 0 0), (.int 3 0), (.ref 741), (.bool true), (.int 181 0), (.ref 742), .none, (.ref 743), (.ref 744), (.ref 745), (.int 1141 0), (.int 323 0), (.str "/claim/cut.py" 1142)]), #[]⟩
def o747_0 (P : Params) : Obj := ⟨(.type "function"), none, (.func (zf (mS 35 2) "holds" "Cell.holds" 3 [] .none .none .none (.str "surenear.facts.vectors" 966) none (.ref 746) .none 0)), #[]⟩
def o748_0 (P : Params) : Obj := ⟨(.type "tuple"), none, (.seq #[] 0), #[]⟩
def o749_0 (P : Params) : Obj := ⟨.none, none, (.fields #[]), #[]⟩
def o750_0 (P : Params) : Obj := ⟨(.type "tuple"), none, (.seq #[(.str "self" 1147), (.str "q" 1148)] 0), #[]⟩
def o751_0 (P : Params) : Obj := ⟨(.type "tuple"), none, (.seq #[] 0), #[]⟩
def o752_0 (P : Params) : Obj := ⟨.none, none, (.func (zf (mS 35 3) "least_distance" "Cell.least_distance" 0 [] .none .none .none .none none .none .none 0)), #[]⟩
def o753_0 (P : Params) : Obj := ⟨(.type "code"), none, (.fields #[(.str "least_distance" 1144), (.str "Cell.least_distance" 1145), (.str "/claim/cut.py" 1146), (.int 326 0), (.int 2 0), (.int 0 0), (.int 0 0), (.int 3 0), (.ref 748), (.bool true), (.int 181 0), (.ref 749), .none, (.ref 750), (.ref 751), (.ref 752), (.int 1149 0), (.int 326 0), (.str "/claim/cut.py" 1150)]), #[]⟩
def o754_0 (P : Params) : Obj := ⟨(.type "function"), none, (.func (zf (mS 35 3) "least_distance" "Cell.least_distance" 3 [] .none .none .none (.str "surenear.facts.vectors" 966) none (.ref 753) .none 0)), #[]⟩
def o755_0 (P : Params) : Obj := ⟨(.type "tuple"), none, (.seq #[] 0), #[]⟩
def o756_0 (P : Params) : Obj := ⟨.none, none, (.fields #[]), #[]⟩
def o757_0 (P : Params) : Obj := ⟨(.type "tuple"), none, (.seq #[(.str "self" 1155), (.str "other" 1156)] 0), #[]⟩
def o758_0 (P : Params) : Obj := ⟨(.type "tuple"), none, (.seq #[] 0), #[]⟩
def o759_0 (P : Params) : Obj := ⟨.none, none, (.func (zf (mS 35 4) "__eq__" "Cell.__eq__" 0 [] .none .none .none .none none .none .none 0)), #[]⟩
def o760_0 (P : Params) : Obj := ⟨(.type "code"), none, (.fields #[(.str "__eq__" 1152), (.str "Cell.__eq__" 1153), (.str "/claim/cut.py" 1154), (.int 329 0), (.int 2 0), (.int 0 0), (.int 0 0), (.int 3 0), (.ref 755), (.bool true), (.int 181 0), (.ref 756), .none, (.ref 757), (.ref 758), (.ref 759), (.int 1157 0), (.int 329 0), (.str "/claim/cut.py" 1158)]), #[]⟩
def o761_0 (P : Params) : Obj := ⟨(.type "function"), none, (.func (zf (mS 35 4) "__eq__" "Cell.__eq__" 3 [] .none .none .none (.str "surenear.facts.vectors" 966) none (.ref 760) .none 0)), #[]⟩
def o762_0 (P : Params) : Obj := ⟨(.type "tuple"), none, (.seq #[(.str "near" 1160), (.str "rival" 1161)] 0), #[]⟩
def o763_0 (P : Params) : Obj := ⟨(.type "dict"), none, (.dict #[zd P "__module__" 1114 (.str "surenear.facts.vectors" 966), zd P "__firstlineno__" 1118 (.int 314 1117), zd P "__init__" 1127 (.ref 733), zd P "fits" 1135 (.ref 740), zd P "holds" 1143 (.ref 747), zd P "least_distance" 1151 (.ref 754), zd P "__eq__" 1159 (.ref 761), zd P "__static_attributes__" 1162 (.ref 762), zd P "__doc__" 1163 .none, zd P "__hash__" 1164 .none] 3), #[]⟩
def o764_0 (P : Params) : Obj := ⟨(.type "type"), none, (.cls ⟨"Cell", [(.ref 80)], [(.ref 764), (.ref 80), (.type "object")], 763, "Cell", true, [], [], false, none, false⟩), #[(some (.ref 720)), none, (some (.str "Cell" 1107)), (some (.str "Cell" 1115)), (some (.builtin "object.__new__")), (some (.bool true))]⟩
def o765_0 (P : Params) : Obj := ⟨(.type "super"), none, (.fields #[(.ref 764), (.ref 764), (.ref 764)]), #[]⟩
def o766_0 (P : Params) : Obj := ⟨(.type "builtin_function_or_method"), none, (.fields #[(.builtin "object.__init_subclass__"), (.ref 764)]), #[]⟩
def o767_0 (P : Params) : Obj := ⟨(.type "tuple"), none, (.seq #[(.ref 80)] 0), #[]⟩
def o768_0 (P : Params) : Obj := ⟨(.type "builtin_function_or_method"), none, (.fields #[(.builtin "type.__prepare__"), (.type "type")]), #[]⟩
def o769_0 (P : Params) : Obj := ⟨(.type "dict"), none, (.dict #[zd P "__module__" 1174 (.str "surenear.facts.vectors" 966), zd P "__qualname__" 1176 (.str "Box" 1175), zd P "__firstlineno__" 1178 (.int 331 1177), zd P "__init__" 1187 (.ref 780), zd P "fits" 1195 (.ref 787), zd P "holds" 1203 (.ref 794), zd P "least_distance" 1211 (.ref 801), zd P "most_product" 1219 (.ref 808), zd P "__eq__" 1227 (.ref 815), zd P "__static_attributes__" 1230 (.ref 816)] 10), #[]⟩
def o770_0 (P : Params) : Obj := ⟨(.type "tuple"), none, (.seq #[] 0), #[]⟩
def o771_0 (P : Params) : Obj := ⟨.none, none, (.fields #[(.int 333 0), (.int 4 0), (.ref 779), (.int 337 0), (.int 4 0), (.ref 786), (.int 340 0), (.int 4 0), (.ref 793), (.int 343 0), (.int 4 0), (.ref 800), (.int 346 0), (.int 4 0), (.ref 807), (.int 349 0), (.int 4 0), (.ref 814)]), #[]⟩
def o772_0 (P : Params) : Obj := ⟨(.type "code"), none, (.fields #[(.str "Box" 1169), (.str "Box" 1170), (.str "/claim/cut.py" 1171), (.int 331 0), (.int 0 0), (.int 0 0), (.int 0 0), (.int 0 0), (.ref 770), (.bool false), (.int 181 0), (.ref 771), .none, .none, .none, .none, (.int 1172 0), (.int 331 0), (.str "/claim/cut.py" 1173)]), #[]⟩
def o773_0 (P : Params) : Obj := ⟨(.type "frame"), none, .plain, #[(some (.ref 772)), (some (.ref 3)), (some (.ref 769)), none, (some (.str "surenear.facts.vectors" 966)), none, (some (.ref 0))]⟩
def o774_0 (P : Params) : Obj := ⟨(.type "tuple"), none, (.seq #[] 0), #[]⟩
def o775_0 (P : Params) : Obj := ⟨.none, none, (.fields #[]), #[]⟩
def o776_0 (P : Params) : Obj := ⟨(.type "tuple"), none, (.seq #[(.str "self" 1182), (.str "low" 1183), (.str "high" 1184)] 0), #[]⟩
def o777_0 (P : Params) : Obj := ⟨(.type "tuple"), none, (.seq #[] 0), #[]⟩
def o778_0 (P : Params) : Obj := ⟨.none, none, (.func (zf (mS 36 0) "__init__" "Box.__init__" 0 [] .none .none .none .none none .none .none 0)), #[]⟩
def o779_0 (P : Params) : Obj := ⟨(.type "code"), none, (.fields #[(.str "__init__" 1179), (.str "Box.__init__" 1180), (.str "/claim/cut.py" 1181), (.int 333 0), (.int 3 0), (.int 0 0), (.int 0 0), (.int 3 0), (.ref 774), (.bool true), (.int 181 0), (.ref 775), .none, (.ref 776), (.ref 777), (.ref 778), (.int 1185 0), (.int 333 0), (.str "/claim/cut.py" 1186)]), #[]⟩
def o780_0 (P : Params) : Obj := ⟨(.type "function"), none, (.func (zf (mS 36 0) "__init__" "Box.__init__" 3 [] .none .none .none (.str "surenear.facts.vectors" 966) none (.ref 779) .none 0)), #[]⟩
def o781_0 (P : Params) : Obj := ⟨(.type "tuple"), none, (.seq #[] 0), #[]⟩
def o782_0 (P : Params) : Obj := ⟨.none, none, (.fields #[]), #[]⟩
def o783_0 (P : Params) : Obj := ⟨(.type "tuple"), none, (.seq #[(.str "self" 1191), (.str "q" 1192)] 0), #[]⟩
def o784_0 (P : Params) : Obj := ⟨(.type "tuple"), none, (.seq #[] 0), #[]⟩
def o785_0 (P : Params) : Obj := ⟨.none, none, (.func (zf (mS 36 1) "fits" "Box.fits" 0 [] .none .none .none .none none .none .none 0)), #[]⟩
def o786_0 (P : Params) : Obj := ⟨(.type "code"), none, (.fields #[(.str "fits" 1188), (.str "Box.fits" 1189), (.str "/claim/cut.py" 1190), (.int 337 0), (.int 2 0), (.int 0 0), (.int 0 0), (.int 3 0), (.ref 781), (.bool true), (.int 181 0), (.ref 782), .none, (.ref 783), (.ref 784), (.ref 785), (.int 1193 0), (.int 337 0), (.str "/claim/cut.py" 1194)]), #[]⟩
def o787_0 (P : Params) : Obj := ⟨(.type "function"), none, (.func (zf (mS 36 1) "fits" "Box.fits" 3 [] .none .none .none (.str "surenear.facts.vectors" 966) none (.ref 786) .none 0)), #[]⟩
def o788_0 (P : Params) : Obj := ⟨(.type "tuple"), none, (.seq #[] 0), #[]⟩
def o789_0 (P : Params) : Obj := ⟨.none, none, (.fields #[]), #[]⟩
def o790_0 (P : Params) : Obj := ⟨(.type "tuple"), none, (.seq #[(.str "self" 1199), (.str "record" 1200)] 0), #[]⟩
def o791_0 (P : Params) : Obj := ⟨(.type "tuple"), none, (.seq #[] 0), #[]⟩
def o792_0 (P : Params) : Obj := ⟨.none, none, (.func (zf (mS 36 2) "holds" "Box.holds" 0 [] .none .none .none .none none .none .none 0)), #[]⟩
def o793_0 (P : Params) : Obj := ⟨(.type "code"), none, (.fields #[(.str "holds" 1196), (.str "Box.holds" 1197), (.str "/claim/cut.py" 1198), (.int 340 0), (.int 2 0), (.int 0 0), (.int 0 0), (.int 3 0), (.ref 788), (.bool true), (.int 181 0), (.ref 789), .none, (.ref 790), (.ref 791), (.ref 792), (.int 1201 0), (.int 340 0), (.str "/claim/cut.py" 1202)]), #[]⟩
def o794_0 (P : Params) : Obj := ⟨(.type "function"), none, (.func (zf (mS 36 2) "holds" "Box.holds" 3 [] .none .none .none (.str "surenear.facts.vectors" 966) none (.ref 793) .none 0)), #[]⟩
def o795_0 (P : Params) : Obj := ⟨(.type "tuple"), none, (.seq #[] 0), #[]⟩
def o796_0 (P : Params) : Obj := ⟨.none, none, (.fields #[]), #[]⟩
def o797_0 (P : Params) : Obj := ⟨(.type "tuple"), none, (.seq #[(.str "self" 1207), (.str "q" 1208)] 0), #[]⟩
def o798_0 (P : Params) : Obj := ⟨(.type "tuple"), none, (.seq #[] 0), #[]⟩
def o799_0 (P : Params) : Obj := ⟨.none, none, (.func (zf (mS 36 3) "least_distance" "Box.least_distance" 0 [] .none .none .none .none none .none .none 0)), #[]⟩
def o800_0 (P : Params) : Obj := ⟨(.type "code"), none, (.fields #[(.str "least_distance" 1204), (.str "Box.least_distance" 1205), (.str "/claim/cut.py" 1206), (.int 343 0), (.int 2 0), (.int 0 0), (.int 0 0), (.int 3 0), (.ref 795), (.bool true), (.int 181 0), (.ref 796), .none, (.ref 797), (.ref 798), (.ref 799), (.int 1209 0), (.int 343 0), (.str "/claim/cut.py" 1210)]), #[]⟩
def o801_0 (P : Params) : Obj := ⟨(.type "function"), none, (.func (zf (mS 36 3) "least_distance" "Box.least_distance" 3 [] .none .none .none (.str "surenear.facts.vectors" 966) none (.ref 800) .none 0)), #[]⟩
def o802_0 (P : Params) : Obj := ⟨(.type "tuple"), none, (.seq #[] 0), #[]⟩
def o803_0 (P : Params) : Obj := ⟨.none, none, (.fields #[]), #[]⟩
def o804_0 (P : Params) : Obj := ⟨(.type "tuple"), none, (.seq #[(.str "self" 1215), (.str "q" 1216)] 0), #[]⟩
def o805_0 (P : Params) : Obj := ⟨(.type "tuple"), none, (.seq #[] 0), #[]⟩
def o806_0 (P : Params) : Obj := ⟨.none, none, (.func (zf (mS 36 4) "most_product" "Box.most_product" 0 [] .none .none .none .none none .none .none 0)), #[]⟩
def o807_0 (P : Params) : Obj := ⟨(.type "code"), none, (.fields #[(.str "most_product" 1212), (.str "Box.most_product" 1213), (.str "/claim/cut.py" 1214), (.int 346 0), (.int 2 0), (.int 0 0), (.int 0 0), (.int 3 0), (.ref 802), (.bool true), (.int 181 0), (.ref 803), .none, (.ref 804), (.ref 805), (.ref 806), (.int 1217 0), (.int 346 0), (.str "/claim/cut.py" 1218)]), #[]⟩
def o808_0 (P : Params) : Obj := ⟨(.type "function"), none, (.func (zf (mS 36 4) "most_product" "Box.most_product" 3 [] .none .none .none (.str "surenear.facts.vectors" 966) none (.ref 807) .none 0)), #[]⟩
def o809_0 (P : Params) : Obj := ⟨(.type "tuple"), none, (.seq #[] 0), #[]⟩
def o810_0 (P : Params) : Obj := ⟨.none, none, (.fields #[]), #[]⟩
def o811_0 (P : Params) : Obj := ⟨(.type "tuple"), none, (.seq #[(.str "self" 1223), (.str "other" 1224)] 0), #[]⟩
def o812_0 (P : Params) : Obj := ⟨(.type "tuple"), none, (.seq #[] 0), #[]⟩
def o813_0 (P : Params) : Obj := ⟨.none, none, (.func (zf (mS 36 5) "__eq__" "Box.__eq__" 0 [] .none .none .none .none none .none .none 0)), #[]⟩
def o814_0 (P : Params) : Obj := ⟨(.type "code"), none, (.fields #[(.str "__eq__" 1220), (.str "Box.__eq__" 1221), (.str "/claim/cut.py" 1222), (.int 349 0), (.int 2 0), (.int 0 0), (.int 0 0), (.int 3 0), (.ref 809), (.bool true), (.int 181 0), (.ref 810), .none, (.ref 811), (.ref 812), (.ref 813), (.int 1225 0), (.int 349 0), (.str "/claim/cut.py" 1226)]), #[]⟩
def o815_0 (P : Params) : Obj := ⟨(.type "function"), none, (.func (zf (mS 36 5) "__eq__" "Box.__eq__" 3 [] .none .none .none (.str "surenear.facts.vectors" 966) none (.ref 814) .none 0)), #[]⟩
def o816_0 (P : Params) : Obj := ⟨(.type "tuple"), none, (.seq #[(.str "high" 1228), (.str "low" 1229)] 0), #[]⟩
def o817_0 (P : Params) : Obj := ⟨(.type "dict"), none, (.dict #[zd P "__module__" 1174 (.str "surenear.facts.vectors" 966), zd P "__firstlineno__" 1178 (.int 331 1177), zd P "__init__" 1187 (.ref 780), zd P "fits" 1195 (.ref 787), zd P "holds" 1203 (.ref 794), zd P "least_distance" 1211 (.ref 801), zd P "most_product" 1219 (.ref 808), zd P "__eq__" 1227 (.ref 815), zd P "__static_attributes__" 1230 (.ref 816), zd P "__doc__" 1231 .none, zd P "__hash__" 1232 .none] 3), #[]⟩
def o818_0 (P : Params) : Obj := ⟨(.type "type"), none, (.cls ⟨"Box", [(.ref 80)], [(.ref 818), (.ref 80), (.type "object")], 817, "Box", true, [], [], false, none, false⟩), #[(some (.ref 767)), none, (some (.str "Box" 1167)), (some (.str "Box" 1175)), (some (.builtin "object.__new__")), (some (.bool true))]⟩
def o819_0 (P : Params) : Obj := ⟨(.type "super"), none, (.fields #[(.ref 818), (.ref 818), (.ref 818)]), #[]⟩
def o820_0 (P : Params) : Obj := ⟨(.type "builtin_function_or_method"), none, (.fields #[(.builtin "object.__init_subclass__"), (.ref 818)]), #[]⟩
def o821_0 (P : Params) : Obj := ⟨(.type "tuple"), none, (.seq #[(.ref 80)] 0), #[]⟩
def o822_0 (P : Params) : Obj := ⟨(.type "builtin_function_or_method"), none, (.fields #[(.builtin "type.__prepare__"), (.type "type")]), #[]⟩
def o823_0 (P : Params) : Obj := ⟨(.type "dict"), none, (.dict #[zd P "__module__" 1242 (.str "surenear.facts.vectors" 966), zd P "__qualname__" 1244 (.str "Norms" 1243), zd P "__firstlineno__" 1246 (.int 351 1245), zd P "__init__" 1255 (.ref 834), zd P "holds" 1263 (.ref 841), zd P "least_distance" 1271 (.ref 848), zd P "most_product" 1279 (.ref 855), zd P "__eq__" 1287 (.ref 862), zd P "__static_attributes__" 1290 (.ref 863)] 9), #[]⟩
def o824_0 (P : Params) : Obj := ⟨(.type "tuple"), none, (.seq #[] 0), #[]⟩
def o825_0 (P : Params) : Obj := ⟨.none, none, (.fields #[(.int 353 0), (.int 4 0), (.ref 833), (.int 357 0), (.int 4 0), (.ref 840), (.int 360 0), (.int 4 0), (.ref 847), (.int 363 0), (.int 4 0), (.ref 854), (.int 366 0), (.int 4 0), (.ref 861)]), #[]⟩
def o826_0 (P : Params) : Obj := ⟨(.type "code"), none, (.fields #[(.str "Norms" 1237), (.str "Norms" 1238), (.str "/claim/cut.py" 1239), (.int 351 0), (.int 0 0), (.int 0 0), (.int 0 0), (.int 0 0), (.ref 824), (.bool false), (.int 181 0), (.ref 825), .none, .none, .none, .none, (.int 1240 0), (.int 351 0), (.str "/claim/cut.py" 1241)]), #[]⟩
def o827_0 (P : Params) : Obj := ⟨(.type "frame"), none, .plain, #[(some (.ref 826)), (some (.ref 3)), (some (.ref 823)), none, (some (.str "surenear.facts.vectors" 966)), none, (some (.ref 0))]⟩
def o828_0 (P : Params) : Obj := ⟨(.type "tuple"), none, (.seq #[] 0), #[]⟩
def o829_0 (P : Params) : Obj := ⟨.none, none, (.fields #[]), #[]⟩
def o830_0 (P : Params) : Obj := ⟨(.type "tuple"), none, (.seq #[(.str "self" 1250), (.str "low" 1251), (.str "high" 1252)] 0), #[]⟩
def o831_0 (P : Params) : Obj := ⟨(.type "tuple"), none, (.seq #[] 0), #[]⟩
def o832_0 (P : Params) : Obj := ⟨.none, none, (.func (zf (mS 37 0) "__init__" "Norms.__init__" 0 [] .none .none .none .none none .none .none 0)), #[]⟩
def o833_0 (P : Params) : Obj := ⟨(.type "code"), none, (.fields #[(.str "__init__" 1247), (.str "Norms.__init__" 1248), (.str "/claim/cut.py" 1249), (.int 353 0), (.int 3 0), (.int 0 0), (.int 0 0), (.int 3 0), (.ref 828), (.bool true), (.int 181 0), (.ref 829), .none, (.ref 830), (.ref 831), (.ref 832), (.int 1253 0), (.int 353 0), (.str "/claim/cut.py" 1254)]), #[]⟩
def o834_0 (P : Params) : Obj := ⟨(.type "function"), none, (.func (zf (mS 37 0) "__init__" "Norms.__init__" 3 [] .none .none .none (.str "surenear.facts.vectors" 966) none (.ref 833) .none 0)), #[]⟩
def o835_0 (P : Params) : Obj := ⟨(.type "tuple"), none, (.seq #[] 0), #[]⟩
def o836_0 (P : Params) : Obj := ⟨.none, none, (.fields #[]), #[]⟩
def o837_0 (P : Params) : Obj := ⟨(.type "tuple"), none, (.seq #[(.str "self" 1259), (.str "record" 1260)] 0), #[]⟩
def o838_0 (P : Params) : Obj := ⟨(.type "tuple"), none, (.seq #[] 0), #[]⟩
def o839_0 (P : Params) : Obj := ⟨.none, none, (.func (zf (mS 37 1) "holds" "Norms.holds" 0 [] .none .none .none .none none .none .none 0)), #[]⟩
def o840_0 (P : Params) : Obj := ⟨(.type "code"), none, (.fields #[(.str "holds" 1256), (.str "Norms.holds" 1257), (.str "/claim/cut.py" 1258), (.int 357 0), (.int 2 0), (.int 0 0), (.int 0 0), (.int 3 0), (.ref 835), (.bool true), (.int 181 0), (.ref 836), .none, (.ref 837), (.ref 838), (.ref 839), (.int 1261 0), (.int 357 0), (.str "/claim/cut.py" 1262)]), #[]⟩
def o841_0 (P : Params) : Obj := ⟨(.type "function"), none, (.func (zf (mS 37 1) "holds" "Norms.holds" 3 [] .none .none .none (.str "surenear.facts.vectors" 966) none (.ref 840) .none 0)), #[]⟩
def o842_0 (P : Params) : Obj := ⟨(.type "tuple"), none, (.seq #[] 0), #[]⟩
def o843_0 (P : Params) : Obj := ⟨.none, none, (.fields #[]), #[]⟩
def o844_0 (P : Params) : Obj := ⟨(.type "tuple"), none, (.seq #[(.str "self" 1267), (.str "q" 1268)] 0), #[]⟩
def o845_0 (P : Params) : Obj := ⟨(.type "tuple"), none, (.seq #[] 0), #[]⟩
def o846_0 (P : Params) : Obj := ⟨.none, none, (.func (zf (mS 37 2) "least_distance" "Norms.least_distance" 0 [] .none .none .none .none none .none .none 0)), #[]⟩
def o847_0 (P : Params) : Obj := ⟨(.type "code"), none, (.fields #[(.str "least_distance" 1264), (.str "Norms.least_distance" 1265), (.str "/claim/cut.py" 1266), (.int 360 0), (.int 2 0), (.int 0 0), (.int 0 0), (.int 3 0), (.ref 842), (.bool true), (.int 181 0), (.ref 843), .none, (.ref 844), (.ref 845), (.ref 846), (.int 1269 0), (.int 360 0), (.str "/claim/cut.py" 1270)]), #[]⟩
def o848_0 (P : Params) : Obj := ⟨(.type "function"), none, (.func (zf (mS 37 2) "least_distance" "Norms.least_distance" 3 [] .none .none .none (.str "surenear.facts.vectors" 966) none (.ref 847) .none 0)), #[]⟩
def o849_0 (P : Params) : Obj := ⟨(.type "tuple"), none, (.seq #[] 0), #[]⟩
def o850_0 (P : Params) : Obj := ⟨.none, none, (.fields #[]), #[]⟩
def o851_0 (P : Params) : Obj := ⟨(.type "tuple"), none, (.seq #[(.str "self" 1275), (.str "q" 1276)] 0), #[]⟩
def o852_0 (P : Params) : Obj := ⟨(.type "tuple"), none, (.seq #[] 0), #[]⟩
def o853_0 (P : Params) : Obj := ⟨.none, none, (.func (zf (mS 37 3) "most_product" "Norms.most_product" 0 [] .none .none .none .none none .none .none 0)), #[]⟩
def o854_0 (P : Params) : Obj := ⟨(.type "code"), none, (.fields #[(.str "most_product" 1272), (.str "Norms.most_product" 1273), (.str "/claim/cut.py" 1274), (.int 363 0), (.int 2 0), (.int 0 0), (.int 0 0), (.int 3 0), (.ref 849), (.bool true), (.int 181 0), (.ref 850), .none, (.ref 851), (.ref 852), (.ref 853), (.int 1277 0), (.int 363 0), (.str "/claim/cut.py" 1278)]), #[]⟩
def o855_0 (P : Params) : Obj := ⟨(.type "function"), none, (.func (zf (mS 37 3) "most_product" "Norms.most_product" 3 [] .none .none .none (.str "surenear.facts.vectors" 966) none (.ref 854) .none 0)), #[]⟩
def o856_0 (P : Params) : Obj := ⟨(.type "tuple"), none, (.seq #[] 0), #[]⟩
def o857_0 (P : Params) : Obj := ⟨.none, none, (.fields #[]), #[]⟩
def o858_0 (P : Params) : Obj := ⟨(.type "tuple"), none, (.seq #[(.str "self" 1283), (.str "other" 1284)] 0), #[]⟩
def o859_0 (P : Params) : Obj := ⟨(.type "tuple"), none, (.seq #[] 0), #[]⟩
def o860_0 (P : Params) : Obj := ⟨.none, none, (.func (zf (mS 37 4) "__eq__" "Norms.__eq__" 0 [] .none .none .none .none none .none .none 0)), #[]⟩
def o861_0 (P : Params) : Obj := ⟨(.type "code"), none, (.fields #[(.str "__eq__" 1280), (.str "Norms.__eq__" 1281), (.str "/claim/cut.py" 1282), (.int 366 0), (.int 2 0), (.int 0 0), (.int 0 0), (.int 3 0), (.ref 856), (.bool true), (.int 181 0), (.ref 857), .none, (.ref 858), (.ref 859), (.ref 860), (.int 1285 0), (.int 366 0), (.str "/claim/cut.py" 1286)]), #[]⟩
def o862_0 (P : Params) : Obj := ⟨(.type "function"), none, (.func (zf (mS 37 4) "__eq__" "Norms.__eq__" 3 [] .none .none .none (.str "surenear.facts.vectors" 966) none (.ref 861) .none 0)), #[]⟩
def o863_0 (P : Params) : Obj := ⟨(.type "tuple"), none, (.seq #[(.str "high" 1288), (.str "low" 1289)] 0), #[]⟩
def o864_0 (P : Params) : Obj := ⟨(.type "dict"), none, (.dict #[zd P "__module__" 1242 (.str "surenear.facts.vectors" 966), zd P "__firstlineno__" 1246 (.int 351 1245), zd P "__init__" 1255 (.ref 834), zd P "holds" 1263 (.ref 841), zd P "least_distance" 1271 (.ref 848), zd P "most_product" 1279 (.ref 855), zd P "__eq__" 1287 (.ref 862), zd P "__static_attributes__" 1290 (.ref 863), zd P "__doc__" 1291 .none, zd P "__hash__" 1292 .none] 3), #[]⟩
def o865_0 (P : Params) : Obj := ⟨(.type "type"), none, (.cls ⟨"Norms", [(.ref 80)], [(.ref 865), (.ref 80), (.type "object")], 864, "Norms", true, [], [], false, none, false⟩), #[(some (.ref 821)), none, (some (.str "Norms" 1235)), (some (.str "Norms" 1243)), (some (.builtin "object.__new__")), (some (.bool true))]⟩
def o866_0 (P : Params) : Obj := ⟨(.type "super"), none, (.fields #[(.ref 865), (.ref 865), (.ref 865)]), #[]⟩
def o867_0 (P : Params) : Obj := ⟨(.type "builtin_function_or_method"), none, (.fields #[(.builtin "object.__init_subclass__"), (.ref 865)]), #[]⟩
def o868_0 (P : Params) : Obj := ⟨(.type "tuple"), none, (.seq #[(.ref 80)] 0), #[]⟩
def o869_0 (P : Params) : Obj := ⟨(.type "builtin_function_or_method"), none, (.fields #[(.builtin "type.__prepare__"), (.type "type")]), #[]⟩
def o870_0 (P : Params) : Obj := ⟨(.type "dict"), none, (.dict #[zd P "__module__" 1302 (.str "surenear.facts.vectors" 966), zd P "__qualname__" 1304 (.str "Differ" 1303), zd P "__firstlineno__" 1306 (.int 368 1305), zd P "__init__" 1315 (.ref 881), zd P "holds" 1323 (.ref 888), zd P "least_differing" 1331 (.ref 895), zd P "__eq__" 1339 (.ref 902), zd P "__static_attributes__" 1342 (.ref 903)] 8), #[]⟩
def o871_0 (P : Params) : Obj := ⟨(.type "tuple"), none, (.seq #[] 0), #[]⟩
def o872_0 (P : Params) : Obj := ⟨.none, none, (.fields #[(.int 370 0), (.int 4 0), (.ref 880), (.int 374 0), (.int 4 0), (.ref 887), (.int 377 0), (.int 4 0), (.ref 894), (.int 380 0), (.int 4 0), (.ref 901)]), #[]⟩
def o873_0 (P : Params) : Obj := ⟨(.type "code"), none, (.fields #[(.str "Differ" 1297), (.str "Differ" 1298), (.str "/claim/cut.py" 1299), (.int 368 0), (.int 0 0), (.int 0 0), (.int 0 0), (.int 0 0), (.ref 871), (.bool false), (.int 181 0), (.ref 872), .none, .none, .none, .none, (.int 1300 0), (.int 368 0), (.str "/claim/cut.py" 1301)]), #[]⟩
def o874_0 (P : Params) : Obj := ⟨(.type "frame"), none, .plain, #[(some (.ref 873)), (some (.ref 3)), (some (.ref 870)), none, (some (.str "surenear.facts.vectors" 966)), none, (some (.ref 0))]⟩
def o875_0 (P : Params) : Obj := ⟨(.type "tuple"), none, (.seq #[] 0), #[]⟩
def o876_0 (P : Params) : Obj := ⟨.none, none, (.fields #[]), #[]⟩
def o877_0 (P : Params) : Obj := ⟨(.type "tuple"), none, (.seq #[(.str "self" 1310), (.str "centre" 1311), (.str "most" 1312)] 0), #[]⟩
def o878_0 (P : Params) : Obj := ⟨(.type "tuple"), none, (.seq #[] 0), #[]⟩
def o879_0 (P : Params) : Obj := ⟨.none, none, (.func (zf (mS 38 0) "__init__" "Differ.__init__" 0 [] .none .none .none .none none .none .none 0)), #[]⟩
def o880_0 (P : Params) : Obj := ⟨(.type "code"), none, (.fields #[(.str "__init__" 1307), (.str "Differ.__init__" 1308), (.str "/claim/cut.py" 1309), (.int 370 0), (.int 3 0), (.int 0 0), (.int 0 0), (.int 3 0), (.ref 875), (.bool true), (.int 181 0), (.ref 876), .none, (.ref 877), (.ref 878), (.ref 879), (.int 1313 0), (.int 370 0), (.str "/claim/cut.py" 1314)]), #[]⟩
def o881_0 (P : Params) : Obj := ⟨(.type "function"), none, (.func (zf (mS 38 0) "__init__" "Differ.__init__" 3 [] .none .none .none (.str "surenear.facts.vectors" 966) none (.ref 880) .none 0)), #[]⟩
def o882_0 (P : Params) : Obj := ⟨(.type "tuple"), none, (.seq #[] 0), #[]⟩
def o883_0 (P : Params) : Obj := ⟨.none, none, (.fields #[]), #[]⟩
def o884_0 (P : Params) : Obj := ⟨(.type "tuple"), none, (.seq #[(.str "self" 1319), (.str "record" 1320)] 0), #[]⟩
def o885_0 (P : Params) : Obj := ⟨(.type "tuple"), none, (.seq #[] 0), #[]⟩
def o886_0 (P : Params) : Obj := ⟨.none, none, (.func (zf (mS 38 1) "holds" "Differ.holds" 0 [] .none .none .none .none none .none .none 0)), #[]⟩
def o887_0 (P : Params) : Obj := ⟨(.type "code"), none, (.fields #[(.str "holds" 1316), (.str "Differ.holds" 1317), (.str "/claim/cut.py" 1318), (.int 374 0), (.int 2 0), (.int 0 0), (.int 0 0), (.int 3 0), (.ref 882), (.bool true), (.int 181 0), (.ref 883), .none, (.ref 884), (.ref 885), (.ref 886), (.int 1321 0), (.int 374 0), (.str "/claim/cut.py" 1322)]), #[]⟩
def o888_0 (P : Params) : Obj := ⟨(.type "function"), none, (.func (zf (mS 38 1) "holds" "Differ.holds" 3 [] .none .none .none (.str "surenear.facts.vectors" 966) none (.ref 887) .none 0)), #[]⟩
def o889_0 (P : Params) : Obj := ⟨(.type "tuple"), none, (.seq #[] 0), #[]⟩
def o890_0 (P : Params) : Obj := ⟨.none, none, (.fields #[]), #[]⟩
def o891_0 (P : Params) : Obj := ⟨(.type "tuple"), none, (.seq #[(.str "self" 1327), (.str "q" 1328)] 0), #[]⟩
def o892_0 (P : Params) : Obj := ⟨(.type "tuple"), none, (.seq #[] 0), #[]⟩
def o893_0 (P : Params) : Obj := ⟨.none, none, (.func (zf (mS 38 2) "least_differing" "Differ.least_differing" 0 [] .none .none .none .none none .none .none 0)), #[]⟩
def o894_0 (P : Params) : Obj := ⟨(.type "code"), none, (.fields #[(.str "least_differing" 1324), (.str "Differ.least_differing" 1325), (.str "/claim/cut.py" 1326), (.int 377 0), (.int 2 0), (.int 0 0), (.int 0 0), (.int 3 0), (.ref 889), (.bool true), (.int 181 0), (.ref 890), .none, (.ref 891), (.ref 892), (.ref 893), (.int 1329 0), (.int 377 0), (.str "/claim/cut.py" 1330)]), #[]⟩
def o895_0 (P : Params) : Obj := ⟨(.type "function"), none, (.func (zf (mS 38 2) "least_differing" "Differ.least_differing" 3 [] .none .none .none (.str "surenear.facts.vectors" 966) none (.ref 894) .none 0)), #[]⟩
def o896_0 (P : Params) : Obj := ⟨(.type "tuple"), none, (.seq #[] 0), #[]⟩
def o897_0 (P : Params) : Obj := ⟨.none, none, (.fields #[]), #[]⟩
def o898_0 (P : Params) : Obj := ⟨(.type "tuple"), none, (.seq #[(.str "self" 1335), (.str "other" 1336)] 0), #[]⟩
def o899_0 (P : Params) : Obj := ⟨(.type "tuple"), none, (.seq #[] 0), #[]⟩
def o900_0 (P : Params) : Obj := ⟨.none, none, (.func (zf (mS 38 3) "__eq__" "Differ.__eq__" 0 [] .none .none .none .none none .none .none 0)), #[]⟩
def o901_0 (P : Params) : Obj := ⟨(.type "code"), none, (.fields #[(.str "__eq__" 1332), (.str "Differ.__eq__" 1333), (.str "/claim/cut.py" 1334), (.int 380 0), (.int 2 0), (.int 0 0), (.int 0 0), (.int 3 0), (.ref 896), (.bool true), (.int 181 0), (.ref 897), .none, (.ref 898), (.ref 899), (.ref 900), (.int 1337 0), (.int 380 0), (.str "/claim/cut.py" 1338)]), #[]⟩
def o902_0 (P : Params) : Obj := ⟨(.type "function"), none, (.func (zf (mS 38 3) "__eq__" "Differ.__eq__" 3 [] .none .none .none (.str "surenear.facts.vectors" 966) none (.ref 901) .none 0)), #[]⟩
def o903_0 (P : Params) : Obj := ⟨(.type "tuple"), none, (.seq #[(.str "centre" 1340), (.str "most" 1341)] 0), #[]⟩
def o904_0 (P : Params) : Obj := ⟨(.type "dict"), none, (.dict #[zd P "__module__" 1302 (.str "surenear.facts.vectors" 966), zd P "__firstlineno__" 1306 (.int 368 1305), zd P "__init__" 1315 (.ref 881), zd P "holds" 1323 (.ref 888), zd P "least_differing" 1331 (.ref 895), zd P "__eq__" 1339 (.ref 902), zd P "__static_attributes__" 1342 (.ref 903), zd P "__doc__" 1343 .none, zd P "__hash__" 1344 .none] 3), #[]⟩
def o905_0 (P : Params) : Obj := ⟨(.type "type"), none, (.cls ⟨"Differ", [(.ref 80)], [(.ref 905), (.ref 80), (.type "object")], 904, "Differ", true, [], [], false, none, false⟩), #[(some (.ref 868)), none, (some (.str "Differ" 1295)), (some (.str "Differ" 1303)), (some (.builtin "object.__new__")), (some (.bool true))]⟩
def o906_0 (P : Params) : Obj := ⟨(.type "super"), none, (.fields #[(.ref 905), (.ref 905), (.ref 905)]), #[]⟩
def o907_0 (P : Params) : Obj := ⟨(.type "builtin_function_or_method"), none, (.fields #[(.builtin "object.__init_subclass__"), (.ref 905)]), #[]⟩
def o908_0 (P : Params) : Obj := ⟨(.type "tuple"), none, (.seq #[] 0), #[]⟩
def o909_0 (P : Params) : Obj := ⟨.none, none, (.fields #[]), #[]⟩
def o910_0 (P : Params) : Obj := ⟨(.type "tuple"), none, (.seq #[(.str "_law_script" 1352), (.str "_law_k" 1353), (.str "_law_cell" 1354), (.str "_law_a" 1355), (.str "_law_b" 1356), (.str "_law_c" 1357)] 0), #[]⟩
def o911_0 (P : Params) : Obj := ⟨(.type "tuple"), none, (.seq #[] 0), #[]⟩
def o912_0 (P : Params) : Obj := ⟨.none, none, (.func (zf (tS 40) "_law_row" "_law_row" 0 [] .none .none .none .none none .none .none 0)), #[]⟩
def o913_0 (P : Params) : Obj := ⟨(.type "code"), none, (.fields #[(.str "_law_row" 1349), (.str "_law_row" 1350), (.str "/claim/cut.py" 1351), (.int 383 0), (.int 2 0), (.int 0 0), (.int 0 0), (.int 3 0), (.ref 908), (.bool true), (.int 181 0), (.ref 909), .none, (.ref 910), (.ref 911), (.ref 912), (.int 1358 0), (.int 383 0), (.str "/claim/cut.py" 1359)]), #[]⟩
def o914_0 (P : Params) : Obj := ⟨(.type "function"), none, (.func (zf (tS 40) "_law_row" "_law_row" 3 [] .none .none .none (.str "law_surenear_k22_outcomes_of_one_fact" 1347) none (.ref 913) .none 0)), #[]⟩
def o915_0 (P : Params) : Obj := ⟨(.type "tuple"), none, (.seq #[] 0), #[]⟩
def o916_0 (P : Params) : Obj := ⟨.none, none, (.fields #[]), #[]⟩
def o917_0 (P : Params) : Obj := ⟨(.type "tuple"), none, (.seq #[(.str "_law_state" 1364), (.str "_law_many" 1365), (.str "_law_drawn" 1366)] 0), #[]⟩
def o918_0 (P : Params) : Obj := ⟨(.type "tuple"), none, (.seq #[] 0), #[]⟩
def o919_0 (P : Params) : Obj := ⟨.none, none, (.func (zf (tS 41) "_law_next" "_law_next" 0 [] .none .none .none .none none .none .none 0)), #[]⟩
def o920_0 (P : Params) : Obj := ⟨(.type "code"), none, (.fields #[(.str "_law_next" 1361), (.str "_law_next" 1362), (.str "/claim/cut.py" 1363), (.int 395 0), (.int 2 0), (.int 0 0), (.int 0 0), (.int 3 0), (.ref 915), (.bool true), (.int 181 0), (.ref 916), .none, (.ref 917), (.ref 918), (.ref 919), (.int 1367 0), (.int 395 0), (.str "/claim/cut.py" 1368)]), #[]⟩
def o921_0 (P : Params) : Obj := ⟨(.type "function"), none, (.func (zf (tS 41) "_law_next" "_law_next" 3 [] .none .none .none (.str "law_surenear_k22_outcomes_of_one_fact" 1347) none (.ref 920) .none 0)), #[]⟩
def o922_0 (P : Params) : Obj := ⟨(.type "tuple"), none, (.seq #[] 0), #[]⟩
def o923_0 (P : Params) : Obj := ⟨.none, none, (.fields #[]), #[]⟩
def o924_0 (P : Params) : Obj := ⟨.none, none, (.func (zf (tS 42) "_law_made" "_law_made" 0 [] .none .none .none .none none .none .none 0)), #[]⟩
def o925_0 (P : Params) : Obj := ⟨(.type "code"), none, (.fields #[(.str "_law_made" 1370), (.str "_law_made" 1371), (.str "/claim/cut.py" 1372), (.int 402 0), (.int 1 0), (.int 0 0), (.int 0 0), (.int 3 0), (.ref 922), (.bool true), (.int 181 0), (.ref 923), .none, .none, .none, (.ref 924), (.int 1373 0), (.int 402 0), (.str "/claim/cut.py" 1374)]), #[]⟩
def o926_0 (P : Params) : Obj := ⟨(.type "function"), none, (.func (zf (tS 42) "_law_made" "_law_made" 3 [] .none .none .none (.str "law_surenear_k22_outcomes_of_one_fact" 1347) none (.ref 925) .none 0)), #[]⟩
def o927_0 (P : Params) : Obj := ⟨(.type "tuple"), none, (.seq #[] 0), #[]⟩
def o928_0 (P : Params) : Obj := ⟨.none, none, (.fields #[]), #[]⟩
def o929_0 (P : Params) : Obj := ⟨(.type "tuple"), none, (.seq #[(.str "_law_tree" 1379)] 0), #[]⟩
def o930_0 (P : Params) : Obj := ⟨(.type "tuple"), none, (.seq #[] 0), #[]⟩
def o931_0 (P : Params) : Obj := ⟨.none, none, (.func (zf (tS 43) "_law_built" "_law_built" 0 [] .none .none .none .none none .none .none 0)), #[]⟩
def o932_0 (P : Params) : Obj := ⟨(.type "code"), none, (.fields #[(.str "_law_built" 1376), (.str "_law_built" 1377), (.str "/claim/cut.py" 1378), (.int 420 0), (.int 1 0), (.int 0 0), (.int 0 0), (.int 3 0), (.ref 927), (.bool true), (.int 181 0), (.ref 928), .none, (.ref 929), (.ref 930), (.ref 931), (.int 1380 0), (.int 420 0), (.str "/claim/cut.py" 1381)]), #[]⟩
def o933_0 (P : Params) : Obj := ⟨(.type "function"), none, (.func (zf (tS 43) "_law_built" "_law_built" 3 [] .none .none .none (.str "law_surenear_k22_outcomes_of_one_fact" 1347) none (.ref 932) .none 0)), #[]⟩
def o934_0 (P : Params) : Obj := ⟨(.type "tuple"), none, (.seq #[] 0), #[]⟩
def o935_0 (P : Params) : Obj := ⟨.none, none, (.fields #[]), #[]⟩
def o936_0 (P : Params) : Obj := ⟨(.type "tuple"), none, (.seq #[(.str "_law_sign" 1386), (.str "_law_a" 1387), (.str "_law_b" 1388)] 0), #[]⟩
def o937_0 (P : Params) : Obj := ⟨(.type "tuple"), none, (.seq #[] 0), #[]⟩
def o938_0 (P : Params) : Obj := ⟨.none, none, (.func (zf (tS 44) "_law_compares" "_law_compares" 0 [] .none .none .none .none none .none .none 0)), #[]⟩
def o939_0 (P : Params) : Obj := ⟨(.type "code"), none, (.fields #[(.str "_law_compares" 1383), (.str "_law_compares" 1384), (.str "/claim/cut.py" 1385), (.int 434 0), (.int 3 0), (.int 0 0), (.int 0 0), (.int 3 0), (.ref 934), (.bool true), (.int 181 0), (.ref 935), .none, (.ref 936), (.ref 937), (.ref 938), (.int 1389 0), (.int 434 0), (.str "/claim/cut.py" 1390)]), #[]⟩
def o940_0 (P : Params) : Obj := ⟨(.type "function"), none, (.func (zf (tS 44) "_law_compares" "_law_compares" 3 [] .none .none .none (.str "law_surenear_k22_outcomes_of_one_fact" 1347) none (.ref 939) .none 0)), #[]⟩
def o941_0 (P : Params) : Obj := ⟨(.type "tuple"), none, (.seq #[] 0), #[]⟩
def o942_0 (P : Params) : Obj := ⟨.none, none, (.fields #[]), #[]⟩
def o943_0 (P : Params) : Obj := ⟨(.type "tuple"), none, (.seq #[(.str "_law_tree" 1395), (.str "_law_worth" 1396)] 0), #[]⟩
def o944_0 (P : Params) : Obj := ⟨(.type "tuple"), none, (.seq #[] 0), #[]⟩
def o945_0 (P : Params) : Obj := ⟨.none, none, (.func (zf (tS 45) "_law_worth_passes" "_law_worth_passes" 0 [] .none .none .none .none none .none .none 0)), #[]⟩
def o946_0 (P : Params) : Obj := ⟨(.type "code"), none, (.fields #[(.str "_law_worth_passes" 1392), (.str "_law_worth_passes" 1393), (.str "/claim/cut.py" 1394), (.int 446 0), (.int 2 0), (.int 0 0), (.int 0 0), (.int 3 0), (.ref 941), (.bool true), (.int 181 0), (.ref 942), .none, (.ref 943), (.ref 944), (.ref 945), (.int 1397 0), (.int 446 0), (.str "/claim/cut.py" 1398)]), #[]⟩
def o947_0 (P : Params) : Obj := ⟨(.type "function"), none, (.func (zf (tS 45) "_law_worth_passes" "_law_worth_passes" 3 [] .none .none .none (.str "law_surenear_k22_outcomes_of_one_fact" 1347) none (.ref 946) .none 0)), #[]⟩
def o948_0 (P : Params) : Obj := ⟨(.type "tuple"), none, (.seq #[] 0), #[]⟩
def o949_0 (P : Params) : Obj := ⟨.none, none, (.fields #[]), #[]⟩
def o950_0 (P : Params) : Obj := ⟨.none, none, (.func (zf (tS 46) "_law_outcomes" "_law_outcomes" 0 [] .none .none .none .none none .none .none 0)), #[]⟩
def o951_0 (P : Params) : Obj := ⟨(.type "code"), none, (.fields #[(.str "_law_outcomes" 1400), (.str "_law_outcomes" 1401), (.str "/claim/cut.py" 1402), (.int 450 0), (.int 2 0), (.int 0 0), (.int 0 0), (.int 3 0), (.ref 948), (.bool true), (.int 181 0), (.ref 949), .none, .none, .none, (.ref 950), (.int 1403 0), (.int 450 0), (.str "/claim/cut.py" 1404)]), #[]⟩
def o952_0 (P : Params) : Obj := ⟨(.type "function"), none, (.func (zf (tS 46) "_law_outcomes" "_law_outcomes" 3 [] .none .none .none (.str "law_surenear_k22_outcomes_of_one_fact" 1347) none (.ref 951) .none 0)), #[]⟩
def o953_0 (P : Params) : Obj := ⟨(.type "tuple"), none, (.seq #[] 0), #[]⟩
def o954_0 (P : Params) : Obj := ⟨.none, none, (.fields #[]), #[]⟩
def o955_0 (P : Params) : Obj := ⟨(.type "tuple"), none, (.seq #[(.str "_law_state" 1409), (.str "_law_lack" 1410), (.str "_law_low" 1411)] 0), #[]⟩
def o956_0 (P : Params) : Obj := ⟨(.type "tuple"), none, (.seq #[] 0), #[]⟩
def o957_0 (P : Params) : Obj := ⟨.none, none, (.func (zf (tS 47) "_law_field_fact" "_law_field_fact" 0 [] .none .none .none .none none .none .none 0)), #[]⟩
def o958_0 (P : Params) : Obj := ⟨(.type "code"), none, (.fields #[(.str "_law_field_fact" 1406), (.str "_law_field_fact" 1407), (.str "/claim/cut.py" 1408), (.int 465 0), (.int 1 0), (.int 0 0), (.int 0 0), (.int 3 0), (.ref 953), (.bool true), (.int 181 0), (.ref 954), .none, (.ref 955), (.ref 956), (.ref 957), (.int 1412 0), (.int 465 0), (.str "/claim/cut.py" 1413)]), #[]⟩
def o959_0 (P : Params) : Obj := ⟨(.type "function"), none, (.func (zf (tS 47) "_law_field_fact" "_law_field_fact" 3 [] .none .none .none (.str "law_surenear_k22_outcomes_of_one_fact" 1347) none (.ref 958) .none 0)), #[]⟩
def o960_0 (P : Params) : Obj := ⟨(.type "tuple"), none, (.seq #[] 0), #[]⟩
def o961_0 (P : Params) : Obj := ⟨.none, none, (.fields #[]), #[]⟩
def o962_0 (P : Params) : Obj := ⟨.none, none, (.func (zf (tS 48) "_law_leaf" "_law_leaf" 0 [] .none .none .none .none none .none .none 0)), #[]⟩
def o963_0 (P : Params) : Obj := ⟨(.type "code"), none, (.fields #[(.str "_law_leaf" 1415), (.str "_law_leaf" 1416), (.str "/claim/cut.py" 1417), (.int 473 0), (.int 1 0), (.int 0 0), (.int 0 0), (.int 3 0), (.ref 960), (.bool true), (.int 181 0), (.ref 961), .none, .none, .none, (.ref 962), (.int 1418 0), (.int 473 0), (.str "/claim/cut.py" 1419)]), #[]⟩
def o964_0 (P : Params) : Obj := ⟨(.type "function"), none, (.func (zf (tS 48) "_law_leaf" "_law_leaf" 3 [] .none .none .none (.str "law_surenear_k22_outcomes_of_one_fact" 1347) none (.ref 963) .none 0)), #[]⟩
def o965_0 (P : Params) : Obj := ⟨(.type "tuple"), none, (.seq #[] 0), #[]⟩
def o966_0 (P : Params) : Obj := ⟨.none, none, (.fields #[]), #[]⟩
def o967_0 (P : Params) : Obj := ⟨(.type "tuple"), none, (.seq #[(.str "_law_script" 1424), (.str "_law_state" 1425), (.str "_law_turn" 1426), (.str "_law_fact" 1427), (.str "_law_tree" 1428), (.str "_law_actual" 1429), (.str "_law_due" 1430)] 0), #[]⟩
def o968_0 (P : Params) : Obj := ⟨(.type "tuple"), none, (.seq #[] 0), #[]⟩
def o969_0 (P : Params) : Obj := ⟨.none, none, (.func (zf (tS 49) "law" "law" 0 [] .none .none .none .none none .none .none 0)), #[]⟩
def o970_0 (P : Params) : Obj := ⟨(.type "code"), none, (.fields #[(.str "law" 1421), (.str "law" 1422), (.str "/claim/cut.py" 1423), (.int 482 0), (.int 1 0), (.int 0 0), (.int 0 0), (.int 3 0), (.ref 965), (.bool true), (.int 181 0), (.ref 966), .none, (.ref 967), (.ref 968), (.ref 969), (.int 1431 0), (.int 482 0), (.str "/claim/cut.py" 1432)]), #[]⟩
def o971_0 (P : Params) : Obj := ⟨(.type "function"), none, (.func (zf (tS 49) "law" "law" 3 [] .none .none .none (.str "law_surenear_k22_outcomes_of_one_fact" 1347) none (.ref 970) .none 0)), #[]⟩
def t5 (P : Params) : BT := (nd (PySem.W.boot_o_0 P) (nd (PySem.W.boot_o_1 P) (nd (o3_4 P) (nd (PySem.W.boot_o_7 P) (nd (o15_0 P) (nd (o31_0 P) (nd (o63_0 P) (nd (o127_0 P) (nd (o255_0 P) (nd (o511_0 P) lf lf) (nd (o767_0 P) lf lf)) (nd (o383_0 P) (nd (o639_0 P) lf lf) (nd (o895_0 P) lf lf))) (nd (o191_0 P) (nd (o319_0 P) (nd (o575_0 P) lf lf) (nd (o831_0 P) lf lf)) (nd (o447_0 P) (nd (o703_0 P) lf lf) (nd (o959_0 P) lf lf)))) (nd (o95_0 P) (nd (o159_0 P) (nd (o287_0 P) (nd (o543_0 P) lf lf) (nd (o799_0 P) lf lf)) (nd (o415_0 P) (nd (o671_0 P) lf lf) (nd (o927_0 P) lf lf))) (nd (o223_0 P) (nd (o351_0 P) (nd (o607_0 P) lf lf) (nd (o863_0 P) lf lf)) (nd (o479_0 P) (nd (o735_0 P) lf lf) lf)))) (nd (o47_0 P) (nd (o79_0 P) (nd (o143_0 P) (nd (o271_0 P) (nd (o527_0 P) lf lf) (nd (o783_0 P) lf lf)) (nd (o399_0 P) (nd (o655_0 P) lf lf) (nd (o911_0 P) lf lf))) (nd (o207_0 P) (nd (o335_0 P) (nd (o591_0 P) lf lf) (nd (o847_0 P) lf lf)) (nd (o463_0 P) (nd (o719_0 P) lf lf) lf))) (nd (o111_0 P) (nd (o175_0 P) (nd (o303_0 P) (nd (o559_0 P) lf lf) (nd (o815_0 P) lf lf)) (nd (o431_0 P) (nd (o687_0 P) lf lf) (nd (o943_0 P) lf lf))) (nd (o239_0 P) (nd (o367_0 P) (nd (o623_0 P) lf lf) (nd (o879_0 P) lf lf)) (nd (o495_0 P) (nd (o751_0 P) lf lf) lf))))) (nd (o23_0 P) (nd (o39_0 P) (nd (o71_0 P) (nd (o135_0 P) (nd (o263_0 P) (nd (o519_0 P) lf lf) (nd (o775_0 P) lf lf)) (nd (o391_0 P) (nd (o647_0 P) lf lf) (nd (o903_0 P) lf lf))) (nd (o199_0 P) (nd (o327_0 P) (nd (o583_0 P) lf lf) (nd (o839_0 P) lf lf)) (nd (o455_0 P) (nd (o711_0 P) lf lf) (nd (o967_0 P) lf lf)))) (nd (o103_0 P) (nd (o167_0 P) (nd (o295_0 P) (nd (o551_0 P) lf lf) (nd (o807_0 P) lf lf)) (nd (o423_0 P) (nd (o679_0 P) lf lf) (nd (o935_0 P) lf lf))) (nd (o231_0 P) (nd (o359_0 P) (nd (o615_0 P) lf lf) (nd (o871_0 P) lf lf)) (nd (o487_0 P) (nd (o743_0 P) lf lf) lf)))) (nd (o55_0 P) (nd (o87_0 P) (nd (o151_0 P) (nd (o279_0 P) (nd (o535_0 P) lf lf) (nd (o791_0 P) lf lf)) (nd (o407_0 P) (nd (o663_0 P) lf lf) (nd (o919_0 P) lf lf))) (nd (o215_0 P) (nd (o343_0 P) (nd (o599_0 P) lf lf) (nd (o855_0 P) lf lf)) (nd (o471_0 P) (nd (o727_0 P) lf lf) lf))) (nd (o119_0 P) (nd (o183_0 P) (nd (o311_0 P) (nd (o567_0 P) lf lf) (nd (o823_0 P) lf lf)) (nd (o439_0 P) (nd (o695_0 P) lf lf) (nd (o951_0 P) lf lf))) (nd (o247_0 P) (nd (o375_0 P) (nd (o631_0 P) lf lf) (nd (o887_0 P) lf lf)) (nd (o503_0 P) (nd (o759_0 P) lf lf) lf)))))) (nd (o11_0 P) (nd (o19_0 P) (nd (o35_0 P) (nd (o67_0 P) (nd (o131_0 P) (nd (o259_0 P) (nd (o515_0 P) lf lf) (nd (o771_0 P) lf lf)) (nd (o387_0 P) (nd (o643_0 P) lf lf) (nd (o899_0 P) lf lf))) (nd (o195_0 P) (nd (o323_0 P) (nd (o579_0 P) lf lf) (nd (o835_0 P) lf lf)) (nd (o451_0 P) (nd (o707_0 P) lf lf) (nd (o963_0 P) lf lf)))) (nd (o99_0 P) (nd (o163_0 P) (nd (o291_0 P) (nd (o547_0 P) lf lf) (nd (o803_0 P) lf lf)) (nd (o419_0 P) (nd (o675_0 P) lf lf) (nd (o931_0 P) lf lf))) (nd (o227_0 P) (nd (o355_0 P) (nd (o611_0 P) lf lf) (nd (o867_0 P) lf lf)) (nd (o483_0 P) (nd (o739_0 P) lf lf) lf)))) (nd (o51_0 P) (nd (o83_0 P) (nd (o147_0 P) (nd (o275_0 P) (nd (o531_0 P) lf lf) (nd (o787_0 P) lf lf)) (nd (o403_0 P) (nd (o659_0 P) lf lf) (nd (o915_0 P) lf lf))) (nd (o211_0 P) (nd (o339_0 P) (nd (o595_0 P) lf lf) (nd (o851_0 P) lf lf)) (nd (o467_0 P) (nd (o723_0 P) lf lf) lf))) (nd (o115_0 P) (nd (o179_0 P) (nd (o307_0 P) (nd (o563_0 P) lf lf) (nd (o819_0 P) lf lf)) (nd (o435_0 P) (nd (o691_0 P) lf lf) (nd (o947_0 P) lf lf))) (nd (o243_0 P) (nd (o371_0 P) (nd (o627_0 P) lf lf) (nd (o883_0 P) lf lf)) (nd (o499_0 P) (nd (o755_0 P) lf lf) lf))))) (nd (o27_0 P) (nd (o43_0 P) (nd (o75_0 P) (nd (o139_0 P) (nd (o267_0 P) (nd (o523_0 P) lf lf) (nd (o779_0 P) lf lf)) (nd (o395_0 P) (nd (o651_0 P) lf lf) (nd (o907_0 P) lf lf))) (nd (o203_0 P) (nd (o331_0 P) (nd (o587_0 P) lf lf) (nd (o843_0 P) lf lf)) (nd (o459_0 P) (nd (o715_0 P) lf lf) (nd (o971_0 P) lf lf)))) (nd (o107_0 P) (nd (o171_0 P) (nd (o299_0 P) (nd (o555_0 P) lf lf) (nd (o811_0 P) lf lf)) (nd (o427_0 P) (nd (o683_0 P) lf lf) (nd (o939_0 P) lf lf))) (nd (o235_0 P) (nd (o363_0 P) (nd (o619_0 P) lf lf) (nd (o875_0 P) lf lf)) (nd (o491_0 P) (nd (o747_0 P) lf lf) lf)))) (nd (o59_0 P) (nd (o91_0 P) (nd (o155_0 P) (nd (o283_0 P) (nd (o539_0 P) lf lf) (nd (o795_0 P) lf lf)) (nd (o411_0 P) (nd (o667_0 P) lf lf) (nd (o923_0 P) lf lf))) (nd (o219_0 P) (nd (o347_0 P) (nd (o603_0 P) lf lf) (nd (o859_0 P) lf lf)) (nd (o475_0 P) (nd (o731_0 P) lf lf) lf))) (nd (o123_0 P) (nd (o187_0 P) (nd (o315_0 P) (nd (o571_0 P) lf lf) (nd (o827_0 P) lf lf)) (nd (o443_0 P) (nd (o699_0 P) lf lf) (nd (o955_0 P) lf lf))) (nd (o251_0 P) (nd (o379_0 P) (nd (o635_0 P) lf lf) (nd (o891_0 P) lf lf)) (nd (o507_0 P) (nd (o763_0 P) lf lf) lf))))))) (nd (PySem.W.boot_o_5 P) (nd (PySem.W.boot_o_9 P) (nd (o17_0 P) (nd (o33_0 P) (nd (o65_0 P) (nd (o129_0 P) (nd (o257_0 P) (nd (o513_0 P) lf lf) (nd (o769_0 P) lf lf)) (nd (o385_0 P) (nd (o641_0 P) lf lf) (nd (o897_0 P) lf lf))) (nd (o193_0 P) (nd (o321_0 P) (nd (o577_0 P) lf lf) (nd (o833_0 P) lf lf)) (nd (o449_0 P) (nd (o705_0 P) lf lf) (nd (o961_0 P) lf lf)))) (nd (o97_0 P) (nd (o161_0 P) (nd (o289_0 P) (nd (o545_0 P) lf lf) (nd (o801_0 P) lf lf)) (nd (o417_0 P) (nd (o673_0 P) lf lf) (nd (o929_0 P) lf lf))) (nd (o225_0 P) (nd (o353_0 P) (nd (o609_0 P) lf lf) (nd (o865_0 P) lf lf)) (nd (o481_0 P) (nd (o737_0 P) lf lf) lf)))) (nd (o49_0 P) (nd (o81_0 P) (nd (o145_0 P) (nd (o273_0 P) (nd (o529_0 P) lf lf) (nd (o785_0 P) lf lf)) (nd (o401_0 P) (nd (o657_0 P) lf lf) (nd (o913_0 P) lf lf))) (nd (o209_0 P) (nd (o337_0 P) (nd (o593_0 P) lf lf) (nd (o849_0 P) lf lf)) (nd (o465_0 P) (nd (o721_0 P) lf lf) lf))) (nd (o113_0 P) (nd (o177_0 P) (nd (o305_0 P) (nd (o561_0 P) lf lf) (nd (o817_0 P) lf lf)) (nd (o433_0 P) (nd (o689_0 P) lf lf) (nd (o945_0 P) lf lf))) (nd (o241_0 P) (nd (o369_0 P) (nd (o625_0 P) lf lf) (nd (o881_0 P) lf lf)) (nd (o497_0 P) (nd (o753_0 P) lf lf) lf))))) (nd (o25_0 P) (nd (o41_0 P) (nd (o73_0 P) (nd (o137_0 P) (nd (o265_0 P) (nd (o521_0 P) lf lf) (nd (o777_0 P) lf lf)) (nd (o393_0 P) (nd (o649_0 P) lf lf) (nd (o905_0 P) lf lf))) (nd (o201_0 P) (nd (o329_0 P) (nd (o585_0 P) lf lf) (nd (o841_0 P) lf lf)) (nd (o457_0 P) (nd (o713_0 P) lf lf) (nd (o969_0 P) lf lf)))) (nd (o105_0 P) (nd (o169_0 P) (nd (o297_0 P) (nd (o553_0 P) lf lf) (nd (o809_0 P) lf lf)) (nd (o425_0 P) (nd (o681_0 P) lf lf) (nd (o937_0 P) lf lf))) (nd (o233_0 P) (nd (o361_0 P) (nd (o617_0 P) lf lf) (nd (o873_0 P) lf lf)) (nd (o489_0 P) (nd (o745_0 P) lf lf) lf)))) (nd (o57_0 P) (nd (o89_0 P) (nd (o153_0 P) (nd (o281_0 P) (nd (o537_0 P) lf lf) (nd (o793_0 P) lf lf)) (nd (o409_0 P) (nd (o665_0 P) lf lf) (nd (o921_0 P) lf lf))) (nd (o217_0 P) (nd (o345_0 P) (nd (o601_0 P) lf lf) (nd (o857_0 P) lf lf)) (nd (o473_0 P) (nd (o729_0 P) lf lf) lf))) (nd (o121_0 P) (nd (o185_0 P) (nd (o313_0 P) (nd (o569_0 P) lf lf) (nd (o825_0 P) lf lf)) (nd (o441_0 P) (nd (o697_0 P) lf lf) (nd (o953_0 P) lf lf))) (nd (o249_0 P) (nd (o377_0 P) (nd (o633_0 P) lf lf) (nd (o889_0 P) lf lf)) (nd (o505_0 P) (nd (o761_0 P) lf lf) lf)))))) (nd (o13_0 P) (nd (o21_0 P) (nd (o37_0 P) (nd (o69_0 P) (nd (o133_0 P) (nd (o261_0 P) (nd (o517_0 P) lf lf) (nd (o773_0 P) lf lf)) (nd (o389_0 P) (nd (o645_0 P) lf lf) (nd (o901_0 P) lf lf))) (nd (o197_0 P) (nd (o325_0 P) (nd (o581_0 P) lf lf) (nd (o837_0 P) lf lf)) (nd (o453_0 P) (nd (o709_0 P) lf lf) (nd (o965_0 P) lf lf)))) (nd (o101_0 P) (nd (o165_0 P) (nd (o293_0 P) (nd (o549_0 P) lf lf) (nd (o805_0 P) lf lf)) (nd (o421_0 P) (nd (o677_0 P) lf lf) (nd (o933_0 P) lf lf))) (nd (o229_0 P) (nd (o357_0 P) (nd (o613_0 P) lf lf) (nd (o869_0 P) lf lf)) (nd (o485_0 P) (nd (o741_0 P) lf lf) lf)))) (nd (o53_0 P) (nd (o85_0 P) (nd (o149_0 P) (nd (o277_0 P) (nd (o533_0 P) lf lf) (nd (o789_0 P) lf lf)) (nd (o405_0 P) (nd (o661_0 P) lf lf) (nd (o917_0 P) lf lf))) (nd (o213_0 P) (nd (o341_0 P) (nd (o597_0 P) lf lf) (nd (o853_0 P) lf lf)) (nd (o469_0 P) (nd (o725_0 P) lf lf) lf))) (nd (o117_0 P) (nd (o181_0 P) (nd (o309_0 P) (nd (o565_0 P) lf lf) (nd (o821_0 P) lf lf)) (nd (o437_0 P) (nd (o693_0 P) lf lf) (nd (o949_0 P) lf lf))) (nd (o245_0 P) (nd (o373_0 P) (nd (o629_0 P) lf lf) (nd (o885_0 P) lf lf)) (nd (o501_0 P) (nd (o757_0 P) lf lf) lf))))) (nd (o29_0 P) (nd (o45_0 P) (nd (o77_0 P) (nd (o141_0 P) (nd (o269_0 P) (nd (o525_0 P) lf lf) (nd (o781_0 P) lf lf)) (nd (o397_0 P) (nd (o653_0 P) lf lf) (nd (o909_0 P) lf lf))) (nd (o205_0 P) (nd (o333_0 P) (nd (o589_0 P) lf lf) (nd (o845_0 P) lf lf)) (nd (o461_0 P) (nd (o717_0 P) lf lf) lf))) (nd (o109_0 P) (nd (o173_0 P) (nd (o301_0 P) (nd (o557_0 P) lf lf) (nd (o813_0 P) lf lf)) (nd (o429_0 P) (nd (o685_0 P) lf lf) (nd (o941_0 P) lf lf))) (nd (o237_0 P) (nd (o365_0 P) (nd (o621_0 P) lf lf) (nd (o877_0 P) lf lf)) (nd (o493_0 P) (nd (o749_0 P) lf lf) lf)))) (nd (o61_0 P) (nd (o93_0 P) (nd (o157_0 P) (nd (o285_0 P) (nd (o541_0 P) lf lf) (nd (o797_0 P) lf lf)) (nd (o413_0 P) (nd (o669_0 P) lf lf) (nd (o925_0 P) lf lf))) (nd (o221_0 P) (nd (o349_0 P) (nd (o605_0 P) lf lf) (nd (o861_0 P) lf lf)) (nd (o477_0 P) (nd (o733_0 P) lf lf) lf))) (nd (o125_0 P) (nd (o189_0 P) (nd (o317_0 P) (nd (o573_0 P) lf lf) (nd (o829_0 P) lf lf)) (nd (o445_0 P) (nd (o701_0 P) lf lf) (nd (o957_0 P) lf lf))) (nd (o253_0 P) (nd (o381_0 P) (nd (o637_0 P) lf lf) (nd (o893_0 P) lf lf)) (nd (o509_0 P) (nd (o765_0 P) lf lf) lf)))))))) (nd (PySem.W.boot_o_2 P) (nd (PySem.W.boot_o_4 P) (nd (PySem.W.boot_o_8 P) (nd (o16_0 P) (nd (o32_0 P) (nd (o64_0 P) (nd (o128_0 P) (nd (o256_0 P) (nd (o512_0 P) lf lf) (nd (o768_0 P) lf lf)) (nd (o384_0 P) (nd (o640_0 P) lf lf) (nd (o896_0 P) lf lf))) (nd (o192_0 P) (nd (o320_0 P) (nd (o576_0 P) lf lf) (nd (o832_0 P) lf lf)) (nd (o448_0 P) (nd (o704_0 P) lf lf) (nd (o960_0 P) lf lf)))) (nd (o96_0 P) (nd (o160_0 P) (nd (o288_0 P) (nd (o544_0 P) lf lf) (nd (o800_0 P) lf lf)) (nd (o416_0 P) (nd (o672_0 P) lf lf) (nd (o928_0 P) lf lf))) (nd (o224_0 P) (nd (o352_0 P) (nd (o608_0 P) lf lf) (nd (o864_0 P) lf lf)) (nd (o480_0 P) (nd (o736_0 P) lf lf) lf)))) (nd (o48_0 P) (nd (o80_2 P) (nd (o144_0 P) (nd (o272_0 P) (nd (o528_0 P) lf lf) (nd (o784_0 P) lf lf)) (nd (o400_0 P) (nd (o656_0 P) lf lf) (nd (o912_0 P) lf lf))) (nd (o208_0 P) (nd (o336_0 P) (nd (o592_0 P) lf lf) (nd (o848_0 P) lf lf)) (nd (o464_0 P) (nd (o720_0 P) lf lf) lf))) (nd (o112_0 P) (nd (o176_0 P) (nd (o304_0 P) (nd (o560_0 P) lf lf) (nd (o816_0 P) lf lf)) (nd (o432_0 P) (nd (o688_0 P) lf lf) (nd (o944_0 P) lf lf))) (nd (o240_0 P) (nd (o368_0 P) (nd (o624_0 P) lf lf) (nd (o880_0 P) lf lf)) (nd (o496_0 P) (nd (o752_0 P) lf lf) lf))))) (nd (o24_0 P) (nd (o40_0 P) (nd (o72_0 P) (nd (o136_0 P) (nd (o264_0 P) (nd (o520_0 P) lf lf) (nd (o776_0 P) lf lf)) (nd (o392_0 P) (nd (o648_0 P) lf lf) (nd (o904_0 P) lf lf))) (nd (o200_0 P) (nd (o328_0 P) (nd (o584_0 P) lf lf) (nd (o840_0 P) lf lf)) (nd (o456_0 P) (nd (o712_0 P) lf lf) (nd (o968_0 P) lf lf)))) (nd (o104_0 P) (nd (o168_0 P) (nd (o296_0 P) (nd (o552_0 P) lf lf) (nd (o808_0 P) lf lf)) (nd (o424_0 P) (nd (o680_0 P) lf lf) (nd (o936_0 P) lf lf))) (nd (o232_0 P) (nd (o360_0 P) (nd (o616_0 P) lf lf) (nd (o872_0 P) lf lf)) (nd (o488_0 P) (nd (o744_0 P) lf lf) lf)))) (nd (o56_0 P) (nd (o88_0 P) (nd (o152_0 P) (nd (o280_0 P) (nd (o536_0 P) lf lf) (nd (o792_0 P) lf lf)) (nd (o408_0 P) (nd (o664_0 P) lf lf) (nd (o920_0 P) lf lf))) (nd (o216_0 P) (nd (o344_0 P) (nd (o600_0 P) lf lf) (nd (o856_0 P) lf lf)) (nd (o472_0 P) (nd (o728_0 P) lf lf) lf))) (nd (o120_0 P) (nd (o184_0 P) (nd (o312_0 P) (nd (o568_0 P) lf lf) (nd (o824_0 P) lf lf)) (nd (o440_0 P) (nd (o696_0 P) lf lf) (nd (o952_0 P) lf lf))) (nd (o248_0 P) (nd (o376_0 P) (nd (o632_0 P) lf lf) (nd (o888_0 P) lf lf)) (nd (o504_0 P) (nd (o760_0 P) lf lf) lf)))))) (nd (o12_4 P) (nd (o20_0 P) (nd (o36_0 P) (nd (o68_0 P) (nd (o132_0 P) (nd (o260_0 P) (nd (o516_0 P) lf lf) (nd (o772_0 P) lf lf)) (nd (o388_0 P) (nd (o644_0 P) lf lf) (nd (o900_0 P) lf lf))) (nd (o196_0 P) (nd (o324_0 P) (nd (o580_0 P) lf lf) (nd (o836_0 P) lf lf)) (nd (o452_0 P) (nd (o708_0 P) lf lf) (nd (o964_0 P) lf lf)))) (nd (o100_0 P) (nd (o164_1 P) (nd (o292_0 P) (nd (o548_0 P) lf lf) (nd (o804_0 P) lf lf)) (nd (o420_0 P) (nd (o676_0 P) lf lf) (nd (o932_0 P) lf lf))) (nd (o228_0 P) (nd (o356_0 P) (nd (o612_0 P) lf lf) (nd (o868_0 P) lf lf)) (nd (o484_0 P) (nd (o740_0 P) lf lf) lf)))) (nd (o52_0 P) (nd (o84_0 P) (nd (o148_0 P) (nd (o276_0 P) (nd (o532_0 P) lf lf) (nd (o788_0 P) lf lf)) (nd (o404_0 P) (nd (o660_0 P) lf lf) (nd (o916_0 P) lf lf))) (nd (o212_0 P) (nd (o340_0 P) (nd (o596_0 P) lf lf) (nd (o852_0 P) lf lf)) (nd (o468_0 P) (nd (o724_0 P) lf lf) lf))) (nd (o116_0 P) (nd (o180_0 P) (nd (o308_0 P) (nd (o564_0 P) lf lf) (nd (o820_0 P) lf lf)) (nd (o436_0 P) (nd (o692_0 P) lf lf) (nd (o948_0 P) lf lf))) (nd (o244_0 P) (nd (o372_0 P) (nd (o628_0 P) lf lf) (nd (o884_0 P) lf lf)) (nd (o500_0 P) (nd (o756_0 P) lf lf) lf))))) (nd (o28_0 P) (nd (o44_0 P) (nd (o76_0 P) (nd (o140_0 P) (nd (o268_0 P) (nd (o524_0 P) lf lf) (nd (o780_0 P) lf lf)) (nd (o396_0 P) (nd (o652_0 P) lf lf) (nd (o908_0 P) lf lf))) (nd (o204_0 P) (nd (o332_0 P) (nd (o588_0 P) lf lf) (nd (o844_0 P) lf lf)) (nd (o460_0 P) (nd (o716_0 P) lf lf) lf))) (nd (o108_0 P) (nd (o172_0 P) (nd (o300_0 P) (nd (o556_0 P) lf lf) (nd (o812_0 P) lf lf)) (nd (o428_0 P) (nd (o684_0 P) lf lf) (nd (o940_0 P) lf lf))) (nd (o236_0 P) (nd (o364_0 P) (nd (o620_0 P) lf lf) (nd (o876_0 P) lf lf)) (nd (o492_0 P) (nd (o748_0 P) lf lf) lf)))) (nd (o60_0 P) (nd (o92_0 P) (nd (o156_0 P) (nd (o284_0 P) (nd (o540_0 P) lf lf) (nd (o796_0 P) lf lf)) (nd (o412_0 P) (nd (o668_0 P) lf lf) (nd (o924_0 P) lf lf))) (nd (o220_0 P) (nd (o348_0 P) (nd (o604_0 P) lf lf) (nd (o860_0 P) lf lf)) (nd (o476_0 P) (nd (o732_0 P) lf lf) lf))) (nd (o124_0 P) (nd (o188_0 P) (nd (o316_0 P) (nd (o572_0 P) lf lf) (nd (o828_0 P) lf lf)) (nd (o444_0 P) (nd (o700_0 P) lf lf) (nd (o956_0 P) lf lf))) (nd (o252_0 P) (nd (o380_0 P) (nd (o636_0 P) lf lf) (nd (o892_0 P) lf lf)) (nd (o508_0 P) (nd (o764_0 P) lf lf) lf))))))) (nd (PySem.W.boot_o_6 P) (nd (PySem.W.boot_o_10 P) (nd (o18_0 P) (nd (o34_0 P) (nd (o66_0 P) (nd (o130_0 P) (nd (o258_0 P) (nd (o514_0 P) lf lf) (nd (o770_0 P) lf lf)) (nd (o386_0 P) (nd (o642_0 P) lf lf) (nd (o898_0 P) lf lf))) (nd (o194_0 P) (nd (o322_0 P) (nd (o578_0 P) lf lf) (nd (o834_0 P) lf lf)) (nd (o450_0 P) (nd (o706_0 P) lf lf) (nd (o962_0 P) lf lf)))) (nd (o98_0 P) (nd (o162_0 P) (nd (o290_0 P) (nd (o546_0 P) lf lf) (nd (o802_0 P) lf lf)) (nd (o418_0 P) (nd (o674_0 P) lf lf) (nd (o930_0 P) lf lf))) (nd (o226_0 P) (nd (o354_0 P) (nd (o610_0 P) lf lf) (nd (o866_0 P) lf lf)) (nd (o482_0 P) (nd (o738_0 P) lf lf) lf)))) (nd (o50_0 P) (nd (o82_0 P) (nd (o146_0 P) (nd (o274_0 P) (nd (o530_0 P) lf lf) (nd (o786_0 P) lf lf)) (nd (o402_0 P) (nd (o658_0 P) lf lf) (nd (o914_0 P) lf lf))) (nd (o210_0 P) (nd (o338_0 P) (nd (o594_0 P) lf lf) (nd (o850_0 P) lf lf)) (nd (o466_0 P) (nd (o722_0 P) lf lf) lf))) (nd (o114_0 P) (nd (o178_0 P) (nd (o306_0 P) (nd (o562_0 P) lf lf) (nd (o818_0 P) lf lf)) (nd (o434_0 P) (nd (o690_0 P) lf lf) (nd (o946_0 P) lf lf))) (nd (o242_0 P) (nd (o370_0 P) (nd (o626_0 P) lf lf) (nd (o882_0 P) lf lf)) (nd (o498_0 P) (nd (o754_0 P) lf lf) lf))))) (nd (o26_0 P) (nd (o42_0 P) (nd (o74_0 P) (nd (o138_0 P) (nd (o266_0 P) (nd (o522_0 P) lf lf) (nd (o778_0 P) lf lf)) (nd (o394_0 P) (nd (o650_0 P) lf lf) (nd (o906_0 P) lf lf))) (nd (o202_0 P) (nd (o330_0 P) (nd (o586_0 P) lf lf) (nd (o842_0 P) lf lf)) (nd (o458_0 P) (nd (o714_0 P) lf lf) (nd (o970_0 P) lf lf)))) (nd (o106_0 P) (nd (o170_0 P) (nd (o298_0 P) (nd (o554_0 P) lf lf) (nd (o810_0 P) lf lf)) (nd (o426_0 P) (nd (o682_0 P) lf lf) (nd (o938_0 P) lf lf))) (nd (o234_0 P) (nd (o362_0 P) (nd (o618_0 P) lf lf) (nd (o874_0 P) lf lf)) (nd (o490_0 P) (nd (o746_0 P) lf lf) lf)))) (nd (o58_0 P) (nd (o90_0 P) (nd (o154_0 P) (nd (o282_0 P) (nd (o538_0 P) lf lf) (nd (o794_0 P) lf lf)) (nd (o410_0 P) (nd (o666_0 P) lf lf) (nd (o922_0 P) lf lf))) (nd (o218_0 P) (nd (o346_0 P) (nd (o602_0 P) lf lf) (nd (o858_0 P) lf lf)) (nd (o474_0 P) (nd (o730_0 P) lf lf) lf))) (nd (o122_0 P) (nd (o186_0 P) (nd (o314_0 P) (nd (o570_0 P) lf lf) (nd (o826_0 P) lf lf)) (nd (o442_0 P) (nd (o698_0 P) lf lf) (nd (o954_0 P) lf lf))) (nd (o250_0 P) (nd (o378_0 P) (nd (o634_0 P) lf lf) (nd (o890_0 P) lf lf)) (nd (o506_0 P) (nd (o762_0 P) lf lf) lf)))))) (nd (o14_0 P) (nd (o22_0 P) (nd (o38_0 P) (nd (o70_0 P) (nd (o134_0 P) (nd (o262_0 P) (nd (o518_0 P) lf lf) (nd (o774_0 P) lf lf)) (nd (o390_0 P) (nd (o646_0 P) lf lf) (nd (o902_0 P) lf lf))) (nd (o198_0 P) (nd (o326_0 P) (nd (o582_0 P) lf lf) (nd (o838_0 P) lf lf)) (nd (o454_0 P) (nd (o710_0 P) lf lf) (nd (o966_0 P) lf lf)))) (nd (o102_0 P) (nd (o166_0 P) (nd (o294_0 P) (nd (o550_0 P) lf lf) (nd (o806_0 P) lf lf)) (nd (o422_0 P) (nd (o678_0 P) lf lf) (nd (o934_0 P) lf lf))) (nd (o230_0 P) (nd (o358_0 P) (nd (o614_0 P) lf lf) (nd (o870_0 P) lf lf)) (nd (o486_0 P) (nd (o742_0 P) lf lf) lf)))) (nd (o54_0 P) (nd (o86_0 P) (nd (o150_0 P) (nd (o278_0 P) (nd (o534_0 P) lf lf) (nd (o790_0 P) lf lf)) (nd (o406_0 P) (nd (o662_0 P) lf lf) (nd (o918_0 P) lf lf))) (nd (o214_0 P) (nd (o342_0 P) (nd (o598_0 P) lf lf) (nd (o854_0 P) lf lf)) (nd (o470_0 P) (nd (o726_0 P) lf lf) lf))) (nd (o118_0 P) (nd (o182_0 P) (nd (o310_0 P) (nd (o566_0 P) lf lf) (nd (o822_0 P) lf lf)) (nd (o438_0 P) (nd (o694_0 P) lf lf) (nd (o950_0 P) lf lf))) (nd (o246_0 P) (nd (o374_0 P) (nd (o630_0 P) lf lf) (nd (o886_0 P) lf lf)) (nd (o502_0 P) (nd (o758_0 P) lf lf) lf))))) (nd (o30_0 P) (nd (o46_0 P) (nd (o78_0 P) (nd (o142_0 P) (nd (o270_0 P) (nd (o526_0 P) lf lf) (nd (o782_0 P) lf lf)) (nd (o398_0 P) (nd (o654_0 P) lf lf) (nd (o910_0 P) lf lf))) (nd (o206_0 P) (nd (o334_0 P) (nd (o590_0 P) lf lf) (nd (o846_0 P) lf lf)) (nd (o462_0 P) (nd (o718_0 P) lf lf) lf))) (nd (o110_0 P) (nd (o174_0 P) (nd (o302_0 P) (nd (o558_0 P) lf lf) (nd (o814_0 P) lf lf)) (nd (o430_0 P) (nd (o686_0 P) lf lf) (nd (o942_0 P) lf lf))) (nd (o238_0 P) (nd (o366_0 P) (nd (o622_0 P) lf lf) (nd (o878_0 P) lf lf)) (nd (o494_0 P) (nd (o750_0 P) lf lf) lf)))) (nd (o62_0 P) (nd (o94_0 P) (nd (o158_0 P) (nd (o286_0 P) (nd (o542_0 P) lf lf) (nd (o798_0 P) lf lf)) (nd (o414_0 P) (nd (o670_0 P) lf lf) (nd (o926_0 P) lf lf))) (nd (o222_0 P) (nd (o350_0 P) (nd (o606_0 P) lf lf) (nd (o862_0 P) lf lf)) (nd (o478_0 P) (nd (o734_0 P) lf lf) lf))) (nd (o126_0 P) (nd (o190_0 P) (nd (o318_0 P) (nd (o574_0 P) lf lf) (nd (o830_0 P) lf lf)) (nd (o446_0 P) (nd (o702_0 P) lf lf) (nd (o958_0 P) lf lf))) (nd (o254_0 P) (nd (o382_0 P) (nd (o638_0 P) lf lf) (nd (o894_0 P) lf lf)) (nd (o510_0 P) (nd (o766_0 P) lf lf) lf)))))))))
def s5 (w : World) (os : OsState) : SharedT := ⟨t5 w.params, 972, { }, #[], ⟨0, 0, 0, 0⟩, 1434, os⟩
abbrev l5 : List Stmt := (bE.drop 34).take 16
theorem seg5 (w : World) (os : OsState) : segRunT treeTable pr w 11 annV 1 2307 (s4 w os) (piecesOf l5 env cE ⟨271, 0, 288, 106⟩ fB) = some (.next, s5 w os, cE, ⟨482, 0, 499, 15⟩) := seg_q (by kernel_rfl)
theorem fin (w : World) (os : OsState) : topRun treeTable pr w 11 annV 2 (s5 w os).abs ⟨doneF .next, cE, ⟨482, 0, 499, 15⟩, fB⟩ = some (s5 w os).abs := by kernel_rfl
theorem parts : bE = l1 ++ (l2 ++ (l3 ++ (l4 ++ (l5 ++ [])))) := by kernel_rfl
theorem whole (w : World) (os : OsState) : topRun treeTable pr w 11 annV 7789 ⟨boot_heap w.params, #[], boot_drawn, boot_toks, os⟩ (topStub pr) = some (s5 w os).abs := by
  have k := piece_app (segRun_of (seg1 w os)) (piece_app (segRun_of (seg2 w os)) (piece_app (segRun_of (seg3 w os)) (piece_app (segRun_of (seg4 w os)) (piece_app (segRun_of (seg5 w os)) (piece_nil (fin w os))))))
  rw [← parts] at k
  exact go_top (n := 12) (N := 7777) (pre w os) (piece_block (n := 1) (N := 7776) (blk w os) k)
def hK : Params → PySem.W.Frag := fun P => ((nat_lit 2, PySem.W.boot_o_2 P) :: (nat_lit 3, o3_4 P) :: (nat_lit 15, o15_0 P) :: (nat_lit 17, o17_0 P) :: (nat_lit 18, o18_0 P) :: (nat_lit 20, o20_0 P) :: (nat_lit 21, o21_0 P) :: (nat_lit 29, o29_0 P) :: (nat_lit 31, o31_0 P) :: (nat_lit 32, o32_0 P) :: (nat_lit 34, o34_0 P) :: (nat_lit 35, o35_0 P) :: (nat_lit 36, o36_0 P) :: (nat_lit 38, o38_0 P) :: (nat_lit 39, o39_0 P) :: (nat_lit 41, o41_0 P) :: (nat_lit 42, o42_0 P) :: (nat_lit 43, o43_0 P) :: (nat_lit 45, o45_0 P) :: (nat_lit 46, o46_0 P) :: (nat_lit 48, o48_0 P) :: (nat_lit 49, o49_0 P) :: (nat_lit 50, o50_0 P) :: (nat_lit 52, o52_0 P) :: (nat_lit 53, o53_0 P) :: (nat_lit 55, o55_0 P) :: (nat_lit 56, o56_0 P) :: (nat_lit 57, o57_0 P) :: (nat_lit 59, o59_0 P) :: (nat_lit 60, o60_0 P) :: (nat_lit 62, o62_0 P) :: (nat_lit 63, o63_0 P) :: (nat_lit 64, o64_0 P) :: (nat_lit 66, o66_0 P) :: (nat_lit 67, o67_0 P) :: (nat_lit 69, o69_0 P) :: (nat_lit 70, o70_0 P) :: (nat_lit 71, o71_0 P) :: (nat_lit 73, o73_0 P) :: (nat_lit 74, o74_0 P) :: (nat_lit 76, o76_0 P) :: (nat_lit 77, o77_0 P) :: (nat_lit 78, o78_0 P) :: (nat_lit 79, o79_0 P) :: (nat_lit 80, o80_2 P) :: (nat_lit 81, o81_0 P) :: (nat_lit 82, o82_0 P) :: (nat_lit 85, o85_0 P) :: (nat_lit 87, o87_0 P) :: (nat_lit 88, o88_0 P) :: (nat_lit 90, o90_0 P) :: (nat_lit 91, o91_0 P) :: (nat_lit 92, o92_0 P) :: (nat_lit 94, o94_0 P) :: (nat_lit 95, o95_0 P) :: (nat_lit 97, o97_0 P) :: (nat_lit 98, o98_0 P) :: (nat_lit 99, o99_0 P) :: (nat_lit 101, o101_0 P) :: (nat_lit 102, o102_0 P) :: (nat_lit 104, o104_0 P) :: (nat_lit 105, o105_0 P) :: (nat_lit 106, o106_0 P) :: (nat_lit 108, o108_0 P) :: (nat_lit 109, o109_0 P) :: (nat_lit 111, o111_0 P) :: (nat_lit 112, o112_0 P) :: (nat_lit 120, o120_0 P) :: (nat_lit 122, o122_0 P) :: (nat_lit 123, o123_0 P) :: (nat_lit 125, o125_0 P) :: (nat_lit 126, o126_0 P) :: (nat_lit 127, o127_0 P) :: (nat_lit 129, o129_0 P) :: (nat_lit 130, o130_0 P) :: (nat_lit 132, o132_0 P) :: (nat_lit 133, o133_0 P) :: (nat_lit 134, o134_0 P) :: (nat_lit 136, o136_0 P) :: (nat_lit 137, o137_0 P) :: (nat_lit 139, o139_0 P) :: (nat_lit 140, o140_0 P) :: (nat_lit 141, o141_0 P) :: (nat_lit 143, o143_0 P) :: (nat_lit 144, o144_0 P) :: (nat_lit 146, o146_0 P) :: (nat_lit 147, o147_0 P) :: (nat_lit 148, o148_0 P) :: (nat_lit 150, o150_0 P) :: (nat_lit 151, o151_0 P) :: (nat_lit 153, o153_0 P) :: (nat_lit 154, o154_0 P) :: (nat_lit 155, o155_0 P) :: (nat_lit 157, o157_0 P) :: (nat_lit 158, o158_0 P) :: (nat_lit 160, o160_0 P) :: (nat_lit 161, o161_0 P) :: (nat_lit 162, o162_0 P) :: (nat_lit 163, o163_0 P) :: (nat_lit 164, o164_1 P) :: (nat_lit 165, o165_0 P) :: (nat_lit 166, o166_0 P) :: (nat_lit 169, o169_0 P) :: (nat_lit 176, o176_0 P) :: (nat_lit 178, o178_0 P) :: (nat_lit 179, o179_0 P) :: (nat_lit 181, o181_0 P) :: (nat_lit 182, o182_0 P) :: (nat_lit 183, o183_0 P) :: (nat_lit 184, o184_0 P) :: (nat_lit 185, o185_0 P) :: (nat_lit 188, o188_0 P) :: (nat_lit 195, o195_0 P) :: (nat_lit 197, o197_0 P) :: (nat_lit 198, o198_0 P) :: (nat_lit 200, o200_0 P) :: (nat_lit 201, o201_0 P) :: (nat_lit 202, o202_0 P) :: (nat_lit 204, o204_0 P) :: (nat_lit 205, o205_0 P) :: (nat_lit 207, o207_0 P) :: (nat_lit 208, o208_0 P) :: (nat_lit 209, o209_0 P) :: (nat_lit 210, o210_0 P) :: (nat_lit 211, o211_0 P) :: (nat_lit 214, o214_0 P) :: (nat_lit 221, o221_0 P) :: (nat_lit 223, o223_0 P) :: (nat_lit 224, o224_0 P) :: (nat_lit 226, o226_0 P) :: (nat_lit 227, o227_0 P) :: (nat_lit 228, o228_0 P) :: (nat_lit 230, o230_0 P) :: (nat_lit 231, o231_0 P) :: (nat_lit 233, o233_0 P) :: (nat_lit 234, o234_0 P) :: (nat_lit 235, o235_0 P) :: (nat_lit 236, o236_0 P) :: (nat_lit 237, o237_0 P) :: (nat_lit 240, o240_0 P) :: (nat_lit 247, o247_0 P) :: (nat_lit 249, o249_0 P) :: (nat_lit 250, o250_0 P) :: (nat_lit 252, o252_0 P) :: (nat_lit 253, o253_0 P) :: (nat_lit 254, o254_0 P) :: (nat_lit 256, o256_0 P) :: (nat_lit 257, o257_0 P) :: (nat_lit 259, o259_0 P) :: (nat_lit 260, o260_0 P) :: (nat_lit 261, o261_0 P) :: (nat_lit 262, o262_0 P) :: (nat_lit 263, o263_0 P) :: (nat_lit 266, o266_0 P) :: (nat_lit 273, o273_0 P) :: (nat_lit 275, o275_0 P) :: (nat_lit 276, o276_0 P) :: (nat_lit 278, o278_0 P) :: (nat_lit 279, o279_0 P) :: (nat_lit 280, o280_0 P) :: (nat_lit 282, o282_0 P) :: (nat_lit 283, o283_0 P) :: (nat_lit 285, o285_0 P) :: (nat_lit 286, o286_0 P) :: (nat_lit 287, o287_0 P) :: (nat_lit 288, o288_0 P) :: (nat_lit 289, o289_0 P) :: (nat_lit 292, o292_0 P) :: (nat_lit 299, o299_0 P) :: (nat_lit 301, o301_0 P) :: (nat_lit 302, o302_0 P) :: (nat_lit 304, o304_0 P) :: (nat_lit 305, o305_0 P) :: (nat_lit 306, o306_0 P) :: (nat_lit 308, o308_0 P) :: (nat_lit 309, o309_0 P) :: (nat_lit 311, o311_0 P) :: (nat_lit 312, o312_0 P) :: (nat_lit 313, o313_0 P) :: (nat_lit 314, o314_0 P) :: (nat_lit 315, o315_0 P) :: (nat_lit 318, o318_0 P) :: (nat_lit 325, o325_0 P) :: (nat_lit 327, o327_0 P) :: (nat_lit 328, o328_0 P) :: (nat_lit 330, o330_0 P) :: (nat_lit 331, o331_0 P) :: (nat_lit 332, o332_0 P) :: (nat_lit 334, o334_0 P) :: (nat_lit 335, o335_0 P) :: (nat_lit 337, o337_0 P) :: (nat_lit 338, o338_0 P) :: (nat_lit 339, o339_0 P) :: (nat_lit 340, o340_0 P) :: (nat_lit 341, o341_0 P) :: (nat_lit 344, o344_0 P) :: (nat_lit 346, o346_0 P) :: (nat_lit 347, o347_0 P) :: (nat_lit 349, o349_0 P) :: (nat_lit 350, o350_0 P) :: (nat_lit 351, o351_0 P) :: (nat_lit 354, o354_0 P) :: (nat_lit 355, o355_0 P) :: (nat_lit 356, o356_0 P) :: (nat_lit 358, o358_0 P) :: (nat_lit 359, o359_0 P) :: (nat_lit 361, o361_0 P) :: (nat_lit 362, o362_0 P) :: (nat_lit 363, o363_0 P) :: (nat_lit 365, o365_0 P) :: (nat_lit 366, o366_0 P) :: (nat_lit 368, o368_0 P) :: (nat_lit 369, o369_0 P) :: (nat_lit 370, o370_0 P) :: (nat_lit 372, o372_0 P) :: (nat_lit 373, o373_0 P) :: (nat_lit 375, o375_0 P) :: (nat_lit 376, o376_0 P) :: (nat_lit 377, o377_0 P) :: (nat_lit 379, o379_0 P) :: (nat_lit 380, o380_0 P) :: (nat_lit 382, o382_0 P) :: (nat_lit 383, o383_0 P) :: (nat_lit 384, o384_0 P) :: (nat_lit 386, o386_0 P) :: (nat_lit 387, o387_0 P) :: (nat_lit 389, o389_0 P) :: (nat_lit 390, o390_0 P) :: (nat_lit 391, o391_0 P) :: (nat_lit 392, o392_0 P) :: (nat_lit 394, o394_0 P) :: (nat_lit 395, o395_0 P) :: (nat_lit 397, o397_0 P) :: (nat_lit 398, o398_0 P) :: (nat_lit 399, o399_0 P) :: (nat_lit 406, o406_0 P) :: (nat_lit 408, o408_0 P) :: (nat_lit 409, o409_0 P) :: (nat_lit 411, o411_0 P) :: (nat_lit 412, o412_0 P) :: (nat_lit 413, o413_0 P) :: (nat_lit 415, o415_0 P) :: (nat_lit 416, o416_0 P) :: (nat_lit 418, o418_0 P) :: (nat_lit 419, o419_0 P) :: (nat_lit 420, o420_0 P) :: (nat_lit 422, o422_0 P) :: (nat_lit 423, o423_0 P) :: (nat_lit 425, o425_0 P) :: (nat_lit 426, o426_0 P) :: (nat_lit 427, o427_0 P) :: (nat_lit 428, o428_0 P) :: (nat_lit 429, o429_0 P) :: (nat_lit 432, o432_0 P) :: (nat_lit 439, o439_0 P) :: (nat_lit 440, o440_0 P) :: (nat_lit 442, o442_0 P) :: (nat_lit 443, o443_0 P) :: (nat_lit 445, o445_0 P) :: (nat_lit 446, o446_0 P) :: (nat_lit 447, o447_0 P) :: (nat_lit 449, o449_0 P) :: (nat_lit 450, o450_0 P) :: (nat_lit 452, o452_0 P) :: (nat_lit 453, o453_0 P) :: (nat_lit 454, o454_0 P) :: (nat_lit 456, o456_0 P) :: (nat_lit 457, o457_0 P) :: (nat_lit 459, o459_0 P) :: (nat_lit 460, o460_0 P) :: (nat_lit 461, o461_0 P) :: (nat_lit 464, o464_0 P) :: (nat_lit 465, o465_0 P) :: (nat_lit 466, o466_0 P) :: (nat_lit 468, o468_0 P) :: (nat_lit 469, o469_0 P) :: (nat_lit 471, o471_0 P) :: (nat_lit 472, o472_0 P) :: (nat_lit 473, o473_0 P) :: (nat_lit 474, o474_0 P) :: (nat_lit 475, o475_0 P) :: (nat_lit 478, o478_0 P) :: (nat_lit 485, o485_0 P) :: (nat_lit 486, o486_0 P) :: (nat_lit 488, o488_0 P) :: (nat_lit 489, o489_0 P) :: (nat_lit 491, o491_0 P) :: (nat_lit 492, o492_0 P) :: (nat_lit 493, o493_0 P) :: (nat_lit 495, o495_0 P) :: (nat_lit 496, o496_0 P) :: (nat_lit 498, o498_0 P) :: (nat_lit 499, o499_0 P) :: (nat_lit 500, o500_0 P) :: (nat_lit 502, o502_0 P) :: (nat_lit 503, o503_0 P) :: (nat_lit 505, o505_0 P) :: (nat_lit 506, o506_0 P) :: (nat_lit 507, o507_0 P) :: (nat_lit 510, o510_0 P) :: (nat_lit 511, o511_0 P) :: (nat_lit 512, o512_0 P) :: (nat_lit 514, o514_0 P) :: (nat_lit 515, o515_0 P) :: (nat_lit 517, o517_0 P) :: (nat_lit 518, o518_0 P) :: (nat_lit 519, o519_0 P) :: (nat_lit 520, o520_0 P) :: (nat_lit 521, o521_0 P) :: (nat_lit 524, o524_0 P) :: (nat_lit 531, o531_0 P) :: (nat_lit 534, o534_0 P) :: (nat_lit 535, o535_0 P) :: (nat_lit 536, o536_0 P) :: (nat_lit 538, o538_0 P) :: (nat_lit 539, o539_0 P) :: (nat_lit 541, o541_0 P) :: (nat_lit 542, o542_0 P) :: (nat_lit 543, o543_0 P) :: (nat_lit 545, o545_0 P) :: (nat_lit 546, o546_0 P) :: (nat_lit 548, o548_0 P) :: (nat_lit 549, o549_0 P) :: (nat_lit 550, o550_0 P) :: (nat_lit 552, o552_0 P) :: (nat_lit 553, o553_0 P) :: (nat_lit 555, o555_0 P) :: (nat_lit 556, o556_0 P) :: (nat_lit 557, o557_0 P) :: (nat_lit 559, o559_0 P) :: (nat_lit 560, o560_0 P) :: (nat_lit 562, o562_0 P) :: (nat_lit 563, o563_0 P) :: (nat_lit 564, o564_0 P) :: (nat_lit 565, o565_0 P) :: (nat_lit 566, o566_0 P) :: (nat_lit 569, o569_0 P) :: (nat_lit 576, o576_0 P) :: (nat_lit 578, o578_0 P) :: (nat_lit 579, o579_0 P) :: (nat_lit 581, o581_0 P) :: (nat_lit 582, o582_0 P) :: (nat_lit 583, o583_0 P) :: (nat_lit 585, o585_0 P) :: (nat_lit 586, o586_0 P) :: (nat_lit 588, o588_0 P) :: (nat_lit 589, o589_0 P) :: (nat_lit 590, o590_0 P) :: (nat_lit 592, o592_0 P) :: (nat_lit 593, o593_0 P) :: (nat_lit 595, o595_0 P) :: (nat_lit 596, o596_0 P) :: (nat_lit 597, o597_0 P) :: (nat_lit 599, o599_0 P) :: (nat_lit 600, o600_0 P) :: (nat_lit 602, o602_0 P) :: (nat_lit 603, o603_0 P) :: (nat_lit 604, o604_0 P) :: (nat_lit 605, o605_0 P) :: (nat_lit 606, o606_0 P) :: (nat_lit 616, o616_0 P) :: (nat_lit 618, o618_0 P) :: (nat_lit 619, o619_0 P) :: (nat_lit 621, o621_0 P) :: (nat_lit 622, o622_0 P) :: (nat_lit 623, o623_0 P) :: (nat_lit 625, o625_0 P) :: (nat_lit 626, o626_0 P) :: (nat_lit 628, o628_0 P) :: (nat_lit 629, o629_0 P) :: (nat_lit 630, o630_0 P) :: (nat_lit 631, o631_0 P) :: (nat_lit 633, o633_0 P) :: (nat_lit 634, o634_0 P) :: (nat_lit 636, o636_0 P) :: (nat_lit 637, o637_0 P) :: (nat_lit 638, o638_0 P) :: (nat_lit 640, o640_0 P) :: (nat_lit 641, o641_0 P) :: (nat_lit 643, o643_0 P) :: (nat_lit 644, o644_0 P) :: (nat_lit 645, o645_0 P) :: (nat_lit 646, o646_0 P) :: (nat_lit 647, o647_0 P) :: (nat_lit 648, o648_0 P) :: (nat_lit 649, o649_0 P) :: (nat_lit 652, o652_0 P) :: (nat_lit 659, o659_0 P) :: (nat_lit 661, o661_0 P) :: (nat_lit 662, o662_0 P) :: (nat_lit 664, o664_0 P) :: (nat_lit 665, o665_0 P) :: (nat_lit 666, o666_0 P) :: (nat_lit 668, o668_0 P) :: (nat_lit 669, o669_0 P) :: (nat_lit 671, o671_0 P) :: (nat_lit 672, o672_0 P) :: (nat_lit 673, o673_0 P) :: (nat_lit 675, o675_0 P) :: (nat_lit 676, o676_0 P) :: (nat_lit 678, o678_0 P) :: (nat_lit 679, o679_0 P) :: (nat_lit 680, o680_0 P) :: (nat_lit 682, o682_0 P) :: (nat_lit 683, o683_0 P) :: (nat_lit 685, o685_0 P) :: (nat_lit 686, o686_0 P) :: (nat_lit 687, o687_0 P) :: (nat_lit 689, o689_0 P) :: (nat_lit 690, o690_0 P) :: (nat_lit 692, o692_0 P) :: (nat_lit 693, o693_0 P) :: (nat_lit 694, o694_0 P) :: (nat_lit 696, o696_0 P) :: (nat_lit 697, o697_0 P) :: (nat_lit 699, o699_0 P) :: (nat_lit 700, o700_0 P) :: (nat_lit 701, o701_0 P) :: (nat_lit 703, o703_0 P) :: (nat_lit 704, o704_0 P) :: (nat_lit 706, o706_0 P) :: (nat_lit 707, o707_0 P) :: (nat_lit 708, o708_0 P) :: (nat_lit 710, o710_0 P) :: (nat_lit 711, o711_0 P) :: (nat_lit 713, o713_0 P) :: (nat_lit 714, o714_0 P) :: (nat_lit 715, o715_0 P) :: (nat_lit 716, o716_0 P) :: (nat_lit 717, o717_0 P) :: (nat_lit 720, o720_0 P) :: (nat_lit 727, o727_0 P) :: (nat_lit 729, o729_0 P) :: (nat_lit 730, o730_0 P) :: (nat_lit 732, o732_0 P) :: (nat_lit 733, o733_0 P) :: (nat_lit 734, o734_0 P) :: (nat_lit 736, o736_0 P) :: (nat_lit 737, o737_0 P) :: (nat_lit 739, o739_0 P) :: (nat_lit 740, o740_0 P) :: (nat_lit 741, o741_0 P) :: (nat_lit 743, o743_0 P) :: (nat_lit 744, o744_0 P) :: (nat_lit 746, o746_0 P) :: (nat_lit 747, o747_0 P) :: (nat_lit 748, o748_0 P) :: (nat_lit 750, o750_0 P) :: (nat_lit 751, o751_0 P) :: (nat_lit 753, o753_0 P) :: (nat_lit 754, o754_0 P) :: (nat_lit 755, o755_0 P) :: (nat_lit 757, o757_0 P) :: (nat_lit 758, o758_0 P) :: (nat_lit 760, o760_0 P) :: (nat_lit 761, o761_0 P) :: (nat_lit 762, o762_0 P) :: (nat_lit 763, o763_0 P) :: (nat_lit 764, o764_0 P) :: (nat_lit 767, o767_0 P) :: (nat_lit 774, o774_0 P) :: (nat_lit 776, o776_0 P) :: (nat_lit 777, o777_0 P) :: (nat_lit 779, o779_0 P) :: (nat_lit 780, o780_0 P) :: (nat_lit 781, o781_0 P) :: (nat_lit 783, o783_0 P) :: (nat_lit 784, o784_0 P) :: (nat_lit 786, o786_0 P) :: (nat_lit 787, o787_0 P) :: (nat_lit 788, o788_0 P) :: (nat_lit 790, o790_0 P) :: (nat_lit 791, o791_0 P) :: (nat_lit 793, o793_0 P) :: (nat_lit 794, o794_0 P) :: (nat_lit 795, o795_0 P) :: (nat_lit 797, o797_0 P) :: (nat_lit 798, o798_0 P) :: (nat_lit 800, o800_0 P) :: (nat_lit 801, o801_0 P) :: (nat_lit 802, o802_0 P) :: (nat_lit 804, o804_0 P) :: (nat_lit 805, o805_0 P) :: (nat_lit 807, o807_0 P) :: (nat_lit 808, o808_0 P) :: (nat_lit 809, o809_0 P) :: (nat_lit 811, o811_0 P) :: (nat_lit 812, o812_0 P) :: (nat_lit 814, o814_0 P) :: (nat_lit 815, o815_0 P) :: (nat_lit 816, o816_0 P) :: (nat_lit 817, o817_0 P) :: (nat_lit 818, o818_0 P) :: (nat_lit 821, o821_0 P) :: (nat_lit 828, o828_0 P) :: (nat_lit 830, o830_0 P) :: (nat_lit 831, o831_0 P) :: (nat_lit 833, o833_0 P) :: (nat_lit 834, o834_0 P) :: (nat_lit 835, o835_0 P) :: (nat_lit 837, o837_0 P) :: (nat_lit 838, o838_0 P) :: (nat_lit 840, o840_0 P) :: (nat_lit 841, o841_0 P) :: (nat_lit 842, o842_0 P) :: (nat_lit 844, o844_0 P) :: (nat_lit 845, o845_0 P) :: (nat_lit 847, o847_0 P) :: (nat_lit 848, o848_0 P) :: (nat_lit 849, o849_0 P) :: (nat_lit 851, o851_0 P) :: (nat_lit 852, o852_0 P) :: (nat_lit 854, o854_0 P) :: (nat_lit 855, o855_0 P) :: (nat_lit 856, o856_0 P) :: (nat_lit 858, o858_0 P) :: (nat_lit 859, o859_0 P) :: (nat_lit 861, o861_0 P) :: (nat_lit 862, o862_0 P) :: (nat_lit 863, o863_0 P) :: (nat_lit 864, o864_0 P) :: (nat_lit 865, o865_0 P) :: (nat_lit 868, o868_0 P) :: (nat_lit 875, o875_0 P) :: (nat_lit 877, o877_0 P) :: (nat_lit 878, o878_0 P) :: (nat_lit 880, o880_0 P) :: (nat_lit 881, o881_0 P) :: (nat_lit 882, o882_0 P) :: (nat_lit 884, o884_0 P) :: (nat_lit 885, o885_0 P) :: (nat_lit 887, o887_0 P) :: (nat_lit 888, o888_0 P) :: (nat_lit 889, o889_0 P) :: (nat_lit 891, o891_0 P) :: (nat_lit 892, o892_0 P) :: (nat_lit 894, o894_0 P) :: (nat_lit 895, o895_0 P) :: (nat_lit 896, o896_0 P) :: (nat_lit 898, o898_0 P) :: (nat_lit 899, o899_0 P) :: (nat_lit 901, o901_0 P) :: (nat_lit 902, o902_0 P) :: (nat_lit 903, o903_0 P) :: (nat_lit 904, o904_0 P) :: (nat_lit 905, o905_0 P) :: (nat_lit 908, o908_0 P) :: (nat_lit 910, o910_0 P) :: (nat_lit 911, o911_0 P) :: (nat_lit 913, o913_0 P) :: (nat_lit 914, o914_0 P) :: (nat_lit 915, o915_0 P) :: (nat_lit 917, o917_0 P) :: (nat_lit 918, o918_0 P) :: (nat_lit 920, o920_0 P) :: (nat_lit 921, o921_0 P) :: (nat_lit 922, o922_0 P) :: (nat_lit 925, o925_0 P) :: (nat_lit 926, o926_0 P) :: (nat_lit 927, o927_0 P) :: (nat_lit 929, o929_0 P) :: (nat_lit 930, o930_0 P) :: (nat_lit 932, o932_0 P) :: (nat_lit 933, o933_0 P) :: (nat_lit 934, o934_0 P) :: (nat_lit 936, o936_0 P) :: (nat_lit 937, o937_0 P) :: (nat_lit 939, o939_0 P) :: (nat_lit 940, o940_0 P) :: (nat_lit 941, o941_0 P) :: (nat_lit 943, o943_0 P) :: (nat_lit 944, o944_0 P) :: (nat_lit 946, o946_0 P) :: (nat_lit 947, o947_0 P) :: (nat_lit 948, o948_0 P) :: (nat_lit 951, o951_0 P) :: (nat_lit 952, o952_0 P) :: (nat_lit 953, o953_0 P) :: (nat_lit 955, o955_0 P) :: (nat_lit 956, o956_0 P) :: (nat_lit 958, o958_0 P) :: (nat_lit 959, o959_0 P) :: (nat_lit 960, o960_0 P) :: (nat_lit 963, o963_0 P) :: (nat_lit 964, o964_0 P) :: (nat_lit 965, o965_0 P) :: (nat_lit 967, o967_0 P) :: (nat_lit 968, o968_0 P) :: (nat_lit 970, o970_0 P) :: (nat_lit 971, o971_0 P) :: [])
def hA : List Addr := (nat_lit 2 :: nat_lit 3 :: nat_lit 15 :: nat_lit 17 :: nat_lit 18 :: nat_lit 20 :: nat_lit 21 :: nat_lit 29 :: nat_lit 31 :: nat_lit 32 :: nat_lit 34 :: nat_lit 35 :: nat_lit 36 :: nat_lit 38 :: nat_lit 39 :: nat_lit 41 :: nat_lit 42 :: nat_lit 43 :: nat_lit 45 :: nat_lit 46 :: nat_lit 48 :: nat_lit 49 :: nat_lit 50 :: nat_lit 52 :: nat_lit 53 :: nat_lit 55 :: nat_lit 56 :: nat_lit 57 :: nat_lit 59 :: nat_lit 60 :: nat_lit 62 :: nat_lit 63 :: nat_lit 64 :: nat_lit 66 :: nat_lit 67 :: nat_lit 69 :: nat_lit 70 :: nat_lit 71 :: nat_lit 73 :: nat_lit 74 :: nat_lit 76 :: nat_lit 77 :: nat_lit 78 :: nat_lit 79 :: nat_lit 80 :: nat_lit 81 :: nat_lit 82 :: nat_lit 85 :: nat_lit 87 :: nat_lit 88 :: nat_lit 90 :: nat_lit 91 :: nat_lit 92 :: nat_lit 94 :: nat_lit 95 :: nat_lit 97 :: nat_lit 98 :: nat_lit 99 :: nat_lit 101 :: nat_lit 102 :: nat_lit 104 :: nat_lit 105 :: nat_lit 106 :: nat_lit 108 :: nat_lit 109 :: nat_lit 111 :: nat_lit 112 :: nat_lit 120 :: nat_lit 122 :: nat_lit 123 :: nat_lit 125 :: nat_lit 126 :: nat_lit 127 :: nat_lit 129 :: nat_lit 130 :: nat_lit 132 :: nat_lit 133 :: nat_lit 134 :: nat_lit 136 :: nat_lit 137 :: nat_lit 139 :: nat_lit 140 :: nat_lit 141 :: nat_lit 143 :: nat_lit 144 :: nat_lit 146 :: nat_lit 147 :: nat_lit 148 :: nat_lit 150 :: nat_lit 151 :: nat_lit 153 :: nat_lit 154 :: nat_lit 155 :: nat_lit 157 :: nat_lit 158 :: nat_lit 160 :: nat_lit 161 :: nat_lit 162 :: nat_lit 163 :: nat_lit 164 :: nat_lit 165 :: nat_lit 166 :: nat_lit 169 :: nat_lit 176 :: nat_lit 178 :: nat_lit 179 :: nat_lit 181 :: nat_lit 182 :: nat_lit 183 :: nat_lit 184 :: nat_lit 185 :: nat_lit 188 :: nat_lit 195 :: nat_lit 197 :: nat_lit 198 :: nat_lit 200 :: nat_lit 201 :: nat_lit 202 :: nat_lit 204 :: nat_lit 205 :: nat_lit 207 :: nat_lit 208 :: nat_lit 209 :: nat_lit 210 :: nat_lit 211 :: nat_lit 214 :: nat_lit 221 :: nat_lit 223 :: nat_lit 224 :: nat_lit 226 :: nat_lit 227 :: nat_lit 228 :: nat_lit 230 :: nat_lit 231 :: nat_lit 233 :: nat_lit 234 :: nat_lit 235 :: nat_lit 236 :: nat_lit 237 :: nat_lit 240 :: nat_lit 247 :: nat_lit 249 :: nat_lit 250 :: nat_lit 252 :: nat_lit 253 :: nat_lit 254 :: nat_lit 256 :: nat_lit 257 :: nat_lit 259 :: nat_lit 260 :: nat_lit 261 :: nat_lit 262 :: nat_lit 263 :: nat_lit 266 :: nat_lit 273 :: nat_lit 275 :: nat_lit 276 :: nat_lit 278 :: nat_lit 279 :: nat_lit 280 :: nat_lit 282 :: nat_lit 283 :: nat_lit 285 :: nat_lit 286 :: nat_lit 287 :: nat_lit 288 :: nat_lit 289 :: nat_lit 292 :: nat_lit 299 :: nat_lit 301 :: nat_lit 302 :: nat_lit 304 :: nat_lit 305 :: nat_lit 306 :: nat_lit 308 :: nat_lit 309 :: nat_lit 311 :: nat_lit 312 :: nat_lit 313 :: nat_lit 314 :: nat_lit 315 :: nat_lit 318 :: nat_lit 325 :: nat_lit 327 :: nat_lit 328 :: nat_lit 330 :: nat_lit 331 :: nat_lit 332 :: nat_lit 334 :: nat_lit 335 :: nat_lit 337 :: nat_lit 338 :: nat_lit 339 :: nat_lit 340 :: nat_lit 341 :: nat_lit 344 :: nat_lit 346 :: nat_lit 347 :: nat_lit 349 :: nat_lit 350 :: nat_lit 351 :: nat_lit 354 :: nat_lit 355 :: nat_lit 356 :: nat_lit 358 :: nat_lit 359 :: nat_lit 361 :: nat_lit 362 :: nat_lit 363 :: nat_lit 365 :: nat_lit 366 :: nat_lit 368 :: nat_lit 369 :: nat_lit 370 :: nat_lit 372 :: nat_lit 373 :: nat_lit 375 :: nat_lit 376 :: nat_lit 377 :: nat_lit 379 :: nat_lit 380 :: nat_lit 382 :: nat_lit 383 :: nat_lit 384 :: nat_lit 386 :: nat_lit 387 :: nat_lit 389 :: nat_lit 390 :: nat_lit 391 :: nat_lit 392 :: nat_lit 394 :: nat_lit 395 :: nat_lit 397 :: nat_lit 398 :: nat_lit 399 :: nat_lit 406 :: nat_lit 408 :: nat_lit 409 :: nat_lit 411 :: nat_lit 412 :: nat_lit 413 :: nat_lit 415 :: nat_lit 416 :: nat_lit 418 :: nat_lit 419 :: nat_lit 420 :: nat_lit 422 :: nat_lit 423 :: nat_lit 425 :: nat_lit 426 :: nat_lit 427 :: nat_lit 428 :: nat_lit 429 :: nat_lit 432 :: nat_lit 439 :: nat_lit 440 :: nat_lit 442 :: nat_lit 443 :: nat_lit 445 :: nat_lit 446 :: nat_lit 447 :: nat_lit 449 :: nat_lit 450 :: nat_lit 452 :: nat_lit 453 :: nat_lit 454 :: nat_lit 456 :: nat_lit 457 :: nat_lit 459 :: nat_lit 460 :: nat_lit 461 :: nat_lit 464 :: nat_lit 465 :: nat_lit 466 :: nat_lit 468 :: nat_lit 469 :: nat_lit 471 :: nat_lit 472 :: nat_lit 473 :: nat_lit 474 :: nat_lit 475 :: nat_lit 478 :: nat_lit 485 :: nat_lit 486 :: nat_lit 488 :: nat_lit 489 :: nat_lit 491 :: nat_lit 492 :: nat_lit 493 :: nat_lit 495 :: nat_lit 496 :: nat_lit 498 :: nat_lit 499 :: nat_lit 500 :: nat_lit 502 :: nat_lit 503 :: nat_lit 505 :: nat_lit 506 :: nat_lit 507 :: nat_lit 510 :: nat_lit 511 :: nat_lit 512 :: nat_lit 514 :: nat_lit 515 :: nat_lit 517 :: nat_lit 518 :: nat_lit 519 :: nat_lit 520 :: nat_lit 521 :: nat_lit 524 :: nat_lit 531 :: nat_lit 534 :: nat_lit 535 :: nat_lit 536 :: nat_lit 538 :: nat_lit 539 :: nat_lit 541 :: nat_lit 542 :: nat_lit 543 :: nat_lit 545 :: nat_lit 546 :: nat_lit 548 :: nat_lit 549 :: nat_lit 550 :: nat_lit 552 :: nat_lit 553 :: nat_lit 555 :: nat_lit 556 :: nat_lit 557 :: nat_lit 559 :: nat_lit 560 :: nat_lit 562 :: nat_lit 563 :: nat_lit 564 :: nat_lit 565 :: nat_lit 566 :: nat_lit 569 :: nat_lit 576 :: nat_lit 578 :: nat_lit 579 :: nat_lit 581 :: nat_lit 582 :: nat_lit 583 :: nat_lit 585 :: nat_lit 586 :: nat_lit 588 :: nat_lit 589 :: nat_lit 590 :: nat_lit 592 :: nat_lit 593 :: nat_lit 595 :: nat_lit 596 :: nat_lit 597 :: nat_lit 599 :: nat_lit 600 :: nat_lit 602 :: nat_lit 603 :: nat_lit 604 :: nat_lit 605 :: nat_lit 606 :: nat_lit 616 :: nat_lit 618 :: nat_lit 619 :: nat_lit 621 :: nat_lit 622 :: nat_lit 623 :: nat_lit 625 :: nat_lit 626 :: nat_lit 628 :: nat_lit 629 :: nat_lit 630 :: nat_lit 631 :: nat_lit 633 :: nat_lit 634 :: nat_lit 636 :: nat_lit 637 :: nat_lit 638 :: nat_lit 640 :: nat_lit 641 :: nat_lit 643 :: nat_lit 644 :: nat_lit 645 :: nat_lit 646 :: nat_lit 647 :: nat_lit 648 :: nat_lit 649 :: nat_lit 652 :: nat_lit 659 :: nat_lit 661 :: nat_lit 662 :: nat_lit 664 :: nat_lit 665 :: nat_lit 666 :: nat_lit 668 :: nat_lit 669 :: nat_lit 671 :: nat_lit 672 :: nat_lit 673 :: nat_lit 675 :: nat_lit 676 :: nat_lit 678 :: nat_lit 679 :: nat_lit 680 :: nat_lit 682 :: nat_lit 683 :: nat_lit 685 :: nat_lit 686 :: nat_lit 687 :: nat_lit 689 :: nat_lit 690 :: nat_lit 692 :: nat_lit 693 :: nat_lit 694 :: nat_lit 696 :: nat_lit 697 :: nat_lit 699 :: nat_lit 700 :: nat_lit 701 :: nat_lit 703 :: nat_lit 704 :: nat_lit 706 :: nat_lit 707 :: nat_lit 708 :: nat_lit 710 :: nat_lit 711 :: nat_lit 713 :: nat_lit 714 :: nat_lit 715 :: nat_lit 716 :: nat_lit 717 :: nat_lit 720 :: nat_lit 727 :: nat_lit 729 :: nat_lit 730 :: nat_lit 732 :: nat_lit 733 :: nat_lit 734 :: nat_lit 736 :: nat_lit 737 :: nat_lit 739 :: nat_lit 740 :: nat_lit 741 :: nat_lit 743 :: nat_lit 744 :: nat_lit 746 :: nat_lit 747 :: nat_lit 748 :: nat_lit 750 :: nat_lit 751 :: nat_lit 753 :: nat_lit 754 :: nat_lit 755 :: nat_lit 757 :: nat_lit 758 :: nat_lit 760 :: nat_lit 761 :: nat_lit 762 :: nat_lit 763 :: nat_lit 764 :: nat_lit 767 :: nat_lit 774 :: nat_lit 776 :: nat_lit 777 :: nat_lit 779 :: nat_lit 780 :: nat_lit 781 :: nat_lit 783 :: nat_lit 784 :: nat_lit 786 :: nat_lit 787 :: nat_lit 788 :: nat_lit 790 :: nat_lit 791 :: nat_lit 793 :: nat_lit 794 :: nat_lit 795 :: nat_lit 797 :: nat_lit 798 :: nat_lit 800 :: nat_lit 801 :: nat_lit 802 :: nat_lit 804 :: nat_lit 805 :: nat_lit 807 :: nat_lit 808 :: nat_lit 809 :: nat_lit 811 :: nat_lit 812 :: nat_lit 814 :: nat_lit 815 :: nat_lit 816 :: nat_lit 817 :: nat_lit 818 :: nat_lit 821 :: nat_lit 828 :: nat_lit 830 :: nat_lit 831 :: nat_lit 833 :: nat_lit 834 :: nat_lit 835 :: nat_lit 837 :: nat_lit 838 :: nat_lit 840 :: nat_lit 841 :: nat_lit 842 :: nat_lit 844 :: nat_lit 845 :: nat_lit 847 :: nat_lit 848 :: nat_lit 849 :: nat_lit 851 :: nat_lit 852 :: nat_lit 854 :: nat_lit 855 :: nat_lit 856 :: nat_lit 858 :: nat_lit 859 :: nat_lit 861 :: nat_lit 862 :: nat_lit 863 :: nat_lit 864 :: nat_lit 865 :: nat_lit 868 :: nat_lit 875 :: nat_lit 877 :: nat_lit 878 :: nat_lit 880 :: nat_lit 881 :: nat_lit 882 :: nat_lit 884 :: nat_lit 885 :: nat_lit 887 :: nat_lit 888 :: nat_lit 889 :: nat_lit 891 :: nat_lit 892 :: nat_lit 894 :: nat_lit 895 :: nat_lit 896 :: nat_lit 898 :: nat_lit 899 :: nat_lit 901 :: nat_lit 902 :: nat_lit 903 :: nat_lit 904 :: nat_lit 905 :: nat_lit 908 :: nat_lit 910 :: nat_lit 911 :: nat_lit 913 :: nat_lit 914 :: nat_lit 915 :: nat_lit 917 :: nat_lit 918 :: nat_lit 920 :: nat_lit 921 :: nat_lit 922 :: nat_lit 925 :: nat_lit 926 :: nat_lit 927 :: nat_lit 929 :: nat_lit 930 :: nat_lit 932 :: nat_lit 933 :: nat_lit 934 :: nat_lit 936 :: nat_lit 937 :: nat_lit 939 :: nat_lit 940 :: nat_lit 941 :: nat_lit 943 :: nat_lit 944 :: nat_lit 946 :: nat_lit 947 :: nat_lit 948 :: nat_lit 951 :: nat_lit 952 :: nat_lit 953 :: nat_lit 955 :: nat_lit 956 :: nat_lit 958 :: nat_lit 959 :: nat_lit 960 :: nat_lit 963 :: nat_lit 964 :: nat_lit 965 :: nat_lit 967 :: nat_lit 968 :: nat_lit 970 :: nat_lit 971 :: [])
theorem hE : ∀ P, hA = (hK P).map (·.1) := fun _ => by kernel_rfl
def nm0 : List PySem.Str := ["_wall", "Fact", "same_value", "compare", "written_value", "same_values", "Condition", "Every", "Has", "Compare", "OneOf", "Both", "Either", "Negation", "written_part", "written", "satisfies", "same_kind", "is_one_of", "is_integer", "range_passes", "OPPOSITES", "is_about", "FieldFact", "Range", "Values", "Counts", "Names", "Part", "Parts"]
def nm1 : List PySem.Str := ["Cell", "Box", "Norms", "Differ", "_law_row", "_law_next", "_law_made", "_law_built", "_law_compares", "_law_worth_passes", "_law_outcomes", "_law_field_fact", "_law_leaf"]
def names : List PySem.Str := nm0 ++ nm1
abbrev qv : Program := view pr [49]
theorem looks (w : World) (os : OsState) : (looksH pr (boot_heap w.params) (s5 w os).abs, seenH qv names (importedModules pr.main.body) (fun s => xlAt qv [] s && recOk RR.toRowW.records s) (s5 w os).abs, hA.map (HandSHeadRun.getT (s5 w os))) = (true, openGood qv names, (hK w.params).map fun x => some x.2) := by kernel_rfl
theorem run (w : World) (os : OsState) : ∃ s : Shared, topRun treeTable pr w 11 annV 7789 ⟨boot_heap w.params, #[], boot_drawn, boot_toks, os⟩ (topStub pr) = some s ∧ looksH pr (boot_heap w.params) s = true ∧ openSeen qv names (importedModules pr.main.body) (fun s => xlAt qv [] s && recOk RR.toRowW.records s) true s = openGood qv names ∧ (kHook hK hA hE).obs s = (kHook hK hA hE).val w := 
  looks_run (whole w os) (looks w os)
abbrev lawD : DefRec := HandSHeadRun.topDef pr 49
theorem lawD_name : lawD.name = ("law" : PySem.Str) := by kernel_rfl
theorem left : LeftO pr qv names (fun s => xlAt qv [] s && recOk RR.toRowW.records s) (kHook hK hA hE).obs (kHook hK hA hE).val 8389 true := left_run (n0 := 11) (ann := annV) (M := 7789) (by kernel_rfl) (by decide) (fun s => by kernel_rfl) (by decide) (fun w => by kernel_rfl) (fun w => by kernel_rfl) run
end ZH
end
namespace Z
open PySem PySem.Spec L2
open C8 (tCut pss_cut)
/-! Z: one rule a construct, whatever the kinds of its values; and the steps of a reading. -/

/-! ### operators by the kinds of their values -/
def MulOk (i j : Int) : Prop := CMul i j ∨ CMulW i j
def uAdd (K : PySem.W.Frag) : R2 := fun x y H Q => match x, y with
  | .int i, .int j => Q (.int (i + j)) H
  | .str a, .str b => a.length + b.length ≤ sizeLine ∧ Q (.str (a ++ b)) H
  | .ref l, .ref b => rCat (.ref l) (.ref b) H Q ∨ rCatA K (.ref l) (.ref b) H Q
  | _, _ => False
def uSub : R2 := fun x y H Q => match x, y with
  | .int i, .int j => Q (.int (i - j)) H
  | _, _ => False
def uMul : R2 := fun x y H Q => match x, y with
  | .int i, .int j => MulOk i j ∧ Q (.int (i * j)) H
  | _, _ => False
def uDiv : R2 := fun x y H Q => match x, y with
  | .int i, .int j => CDivW i j ∧ Q (.int (i / j)) H
  | _, _ => False
def uMod : R2 := fun x y H Q => match x, y with
  | .int i, .int j => 0 < j ∧ Q (.int (i % j)) H
  | _, _ => False
def uPow : R2 := fun x y H Q => match x, y with
  | .int i, .int j => CPow i j ∧ Q (.int (i ^ j.toNat)) H
  | _, _ => False
def uNeg : V → Hp → VK → Prop := fun x H Q => match x with
  | .int i => Q (.int (-i)) H
  | _ => False
/-! tuples of numbers and texts, one before the other -/
def ltV1 : V → V → Bool
  | .int i, .int j => decide (i < j)
  | .str a, .str b => decide (a.cps.toList < b.cps.toList)
  | _, _ => false
def same1 : V → V → Bool
  | .int _, .int _ => true
  | .str _, .str _ => true
  | _, _ => false
def ltV2 (xs ys : List V) (j : Nat) : Bool := match xs[j]?, ys[j]? with | some u, some v => ltV1 u v | _, _ => false
def rLtP (K : PySem.W.Frag) (a b : Addr) (H : Hp) (Q : VK) : Prop := ∃ xs ys : List V, SqT K H a xs ∧ SqT K H b ys ∧ (∀ (j : Nat) (u v : V), xs[j]? = some u → ys[j]? = some v → same1 u v = true) ∧
  Q (.bl (Ob.lexAt (fun j => decide (xs[j]? = ys[j]?)) (ltV2 xs ys) (decide (xs.length < ys.length)) 0 (min xs.length ys.length))) H
def uLt (K : PySem.W.Frag) : R2 := fun x y H Q => match x, y with
  | .int i, .int j => Q (.bl (decide (i < j))) H
  | .str i, .str j => Q (.bl (decide (i.cps.toList < j.cps.toList))) H
  | .ref a, .ref b => rLtT K (.ref a) (.ref b) H Q ∨ rLtP K a b H Q
  | _, _ => False
def uLe : R2 := fun x y H Q => match x, y with
  | .int i, .int j => Q (.bl (decide (i ≤ j))) H
  | .str i, .str j => Q (.bl (!decide (j.cps.toList < i.cps.toList))) H
  | _, _ => False
def uGt : R2 := fun x y H Q => match x, y with
  | .int i, .int j => Q (.bl (decide (j < i))) H
  | .str i, .str j => Q (.bl (decide (j.cps.toList < i.cps.toList))) H
  | _, _ => False
def uGe : R2 := fun x y H Q => match x, y with
  | .int i, .int j => Q (.bl (decide (j ≤ i))) H
  | .str i, .str j => Q (.bl (!decide (i.cps.toList < j.cps.toList))) H
  | _, _ => False
/-! ### == of lists and tuples, place by place; the same object is equal to itself -/
def sameSq (K : PySem.W.Frag) (H : Hp) (a c : Addr) (xs ys : List V) : Prop := (SqT K H a xs ∧ SqT K H c ys) ∨ (SqL K H a xs ∧ SqL K H c ys)
def allB (xs ys : List V) (e : Nat → Bool) : Bool := (List.range (min xs.length ys.length)).all e && (xs.length == ys.length)
def EqB (K : PySem.W.Frag) (H : Hp) : Nat → V → V → Bool → Prop
  | 0 => fun x y b => (flatV x = true ∧ flatV y = true ∧ b = eqV x y) ∨ (∃ a, x = .ref a ∧ y = .ref a ∧ b = true)
  | n + 1 => fun x y b => EqB K H n x y b ∨ ∃ a c xs ys e, x = .ref a ∧ y = .ref c ∧ sameSq K H a c xs ys ∧ (∀ (i : Nat) (x y : V), xs[i]? = some x → ys[i]? = some y → EqB K H n x y (e i)) ∧ b = allB xs ys e
def rSqB (K : PySem.W.Frag) (a c : Addr) (H : Hp) (Q : Bool → Prop) : Prop := ∃ n xs ys e, n ≤ 16 ∧ sameSq K H a c xs ys ∧ (∀ (i : Nat) (x y : V), xs[i]? = some x → ys[i]? = some y → EqB K H n x y (e i)) ∧ Q (allB xs ys e)
theorem sq_both {X : Cx} {pins : List (Addr × Obj)} {σ : L2.St} {H : Hp} {s : Shared} {A : Around} {a c : Addr} {xs ys : List V} {e : Nat → Bool} (I : Inv X pins σ H s) (hu : A.units < cLine) (h : sameSq X.K H a c xs ys)
    (he : ∀ (i : Nat) (x y : V), xs[i]? = some x → ys[i]? = some y → ∀ u v, RelV x u → RelV y v → SeqAt.EqAt A.in1 s u v (e i)) : SeqAt.RcAt A s (.ref a) (.ref c) (allB xs ys e) ∧ SeqAt.RcNeAt A s (.ref a) (.ref c) (!allB xs ys e) := by
  have items : ∀ {us vs : List Value}, Vals xs us → Vals ys vs → ∀ (j : Nat) (h1 : j < us.toArray.size) (h2 : j < vs.toArray.size), SeqAt.EqAt A.in1 s us.toArray[j] vs.toArray[j] (e j) := by
    intro us vs r1 r2 j h1 h2
    have l1 := r1.length
    have l2 := r2.length
    have k1 : j < us.length := by simpa using h1
    have k2 : j < vs.length := by simpa using h2
    obtain ⟨u, eu, ru⟩ := Vals.get r1 (List.getElem?_eq_getElem (show j < xs.length by omega))
    obtain ⟨v, ev, rv⟩ := Vals.get r2 (List.getElem?_eq_getElem (show j < ys.length by omega))
    have z1 : us.toArray[j] = u := by rw [List.getElem?_eq_getElem k1] at eu; simpa using Option.some.inj eu
    have z2 : vs.toArray[j] = v := by rw [List.getElem?_eq_getElem k2] at ev; simpa using Option.some.inj ev
    rw [z1, z2]
    exact he j _ _ (List.getElem?_eq_getElem (show j < xs.length by omega)) (List.getElem?_eq_getElem (show j < ys.length by omega)) u v ru rv
  rcases h with ⟨ha, hc⟩ | ⟨ha, hc⟩
  · obtain ⟨us, r1, p1, _⟩ := I.tuple ha
    obtain ⟨vs, r2, p2, _⟩ := I.tuple hc
    have z : ((List.range (min us.toArray.size vs.toArray.size)).all e && us.toArray.size == vs.toArray.size) = allB xs ys e := by
      unfold allB
      rw [show us.toArray.size = xs.length by simpa using r1.length.symm, show vs.toArray.size = ys.length by simpa using r2.length.symm]
    refine ⟨?_, ?_⟩
    · rw [← z]; exact SeqAt.RcAt.tuples p1 p2 hu (items r1 r2)
    · rw [← z]; exact SeqAt.RcNeAt.tuples p1 p2 hu (items r1 r2)
  · obtain ⟨us, r1, p1, _⟩ := I.list ha
    obtain ⟨vs, r2, p2, _⟩ := I.list hc
    have n1 : us.toArray.size = xs.length := by simpa using r1.length.symm
    have n2 : vs.toArray.size = ys.length := by simpa using r2.length.symm
    by_cases hl : xs.length = ys.length
    · have z : (List.range us.toArray.size).all e = allB xs ys e := by
        unfold allB
        rw [n1, hl, Nat.min_self, beq_self_eq_true, Bool.and_true]
      refine ⟨?_, ?_⟩
      · rw [← z]; exact SeqAt.RcAt.lists p1.isList p2.isList (by omega) hu (items r1 r2)
      · rw [← z]; exact SeqAt.RcNeAt.lists p1.isList p2.isList (by omega) hu (items r1 r2)
    · have z : allB xs ys e = false := by unfold allB; simp [hl]
      have ne : (us.toArray.size != vs.toArray.size) = true := by rw [n1, n2]; simpa using hl
      rw [z]
      exact ⟨SeqAt.RcAt.lists_lengths p1.isList p2.isList ne hu, SeqAt.RcNeAt.lists_lengths p1.isList p2.isList ne hu⟩
theorem EqB.det {X : Cx} {pins : List (Addr × Obj)} {σ : L2.St} {H : Hp} {s : Shared} (I : Inv X pins σ H s) : ∀ (n : Nat) (x : V) (b : Bool), EqB X.K H n x x b → b = true
  | 0, x, b, h => by
    rcases h with ⟨fx, _, rfl⟩ | ⟨a, _, _, rfl⟩
    · cases x <;> first | (cases fx; done) | (simp [eqV]; done)
    · rfl
  | n + 1, x, b, h => by
    rcases h with h | ⟨a, c, xs, ys, e, rfl, e2, hs, he, rfl⟩
    · exact EqB.det I n x b h
    · cases e2
      have z : xs = ys := by
        rcases hs with ⟨h1, h2⟩ | ⟨h1, h2⟩
        · exact I.tuple_inj h1 h2
        · exact I.list_inj h1 h2
      subst z
      unfold allB
      rw [Nat.min_self, beq_self_eq_true, Bool.and_true, List.all_eq_true]
      intro i hi
      have hi := List.mem_range.mp hi
      exact EqB.det I n _ _ (he i _ _ (List.getElem?_eq_getElem hi) (List.getElem?_eq_getElem hi))
theorem EqB.at {X : Cx} {pins : List (Addr × Obj)} {σ : L2.St} {H : Hp} {s : Shared} (I : Inv X pins σ H s) : ∀ (n : Nat) (x y : V) (b : Bool) (u v : Value) (A : Around), A.units + n < cLine → EqB X.K H n x y b → RelV x u → RelV y v → SeqAt.EqAt A s u v b
  | 0, x, y, b, u, v, A, _, h, rx, ry => by
    rcases h with ⟨fx, fy, rfl⟩ | ⟨a, rfl, rfl, rfl⟩
    · exact eqAt_V rx ry fx fy
    · cases rx; cases ry; exact SeqAt.EqAt.same _
  | n + 1, x, y, b, u, v, A, hu, h, rx, ry => by
    rcases h with h | ⟨a, c, xs, ys, e, rfl, rfl, hs, he, hb⟩
    · exact EqB.at I n x y b u v A (by omega) h rx ry
    · cases rx; cases ry
      by_cases q : a = c
      · subst q
        rw [EqB.det I (n + 1) (.ref a) b (.inr ⟨a, a, xs, ys, e, rfl, rfl, hs, he, hb⟩)]; exact SeqAt.EqAt.same _
      · rw [hb]
        refine SeqAt.EqAt.of_refs q (sq_both I (by omega) hs fun i x y e1 e2 u v r1 r2 => EqB.at I n x y (e i) u v A.in1 ?_ (he i x y e1 e2) r1 r2).1
        show A.units + 1 + n < cLine
        omega
theorem op_sqB {X : Cx} (hu : X.A.units + 64 < cLine) {pins : List (Addr × Obj)} {σ : L2.St} {H : Hp} {s : Shared} {a c : Addr} {Q : VK} (I : Inv X pins σ H s) :
    (rSqB X.K a c H (fun b => Q (.bl b) H) → wpAny (model X.prog X.w) X.A (compareOp .Eq (.ref a) (.ref c)) (EP X pins σ Q) X.xe s) ∧ (rSqB X.K a c H (fun b => Q (.bl (!b)) H) → wpAny (model X.prog X.w) X.A (compareOp .NotEq (.ref a) (.ref c)) (EP X pins σ Q) X.xe s) := by
  have key : ∀ {n : Nat} {xs ys : List V} {e : Nat → Bool}, n ≤ 16 → sameSq X.K H a c xs ys → (∀ (i : Nat) (x y : V), xs[i]? = some x → ys[i]? = some y → EqB X.K H n x y (e i)) → _ := fun {n xs ys e} hn hs he => sq_both (A := X.A) I (by omega) hs fun i x y e1 e2 u v r1 r2 => EqB.at I n x y (e i) u v X.A.in1 (by show X.A.units + 1 + n < cLine; omega) (he i x y e1 e2) r1 r2
  refine ⟨fun ⟨n, xs, ys, e, hn, hs, he, q⟩ => ?_, fun ⟨n, xs, ys, e, hn, hs, he, q⟩ => ?_⟩
  · exact (key hn hs he).1 X.prog X.w X.xe _ ⟨.bl _, H, I, rfl, q⟩
  · exact (key hn hs he).2 X.prog X.w X.xe _ ⟨.bl _, H, I, rfl, q⟩
def uEq (K : PySem.W.Frag) : R2 := fun x y H Q => match x, y with
  | .int i, .int j => Q (.bl (decide (i = j))) H
  | .str i, .str j => Q (.bl (decide (i = j))) H
  | .bl i, .bl j => Q (.bl (decide (i = j))) H
  | .non, .non => Q (.bl true) H
  | .ref a, .ref b => rEqD K (.ref a) (.ref b) H Q ∨ rSqB K a b H (fun k => Q (.bl k) H)
  | x, y => (scal x y = true ∧ Q (.bl (decide (x = y))) H) ∨ rEqD K x y H Q
def uNe (K : PySem.W.Frag) : R2 := fun x y H Q => match x, y with
  | .int i, .int j => Q (.bl (!decide (i = j))) H
  | .str i, .str j => Q (.bl (!decide (i = j))) H
  | .bl i, .bl j => Q (.bl (!decide (i = j))) H
  | .non, .non => Q (.bl false) H
  | .ref a, .ref b => rNeD K (.ref a) (.ref b) H Q ∨ rSqB K a b H (fun k => Q (.bl (!k)) H)
  | x, y => (scal x y = true ∧ Q (.bl (!decide (x = y))) H) ∨ rNeD K x y H Q
def uIs : R2 := fun x y H Q => match x, y with
  | x, .non => Q (.bl (decide (x = .non))) H
  | .bl a, .bl b => Q (.bl (decide (a = b))) H
  | _, _ => False
def uIsNot : R2 := fun x y H Q => match x, y with
  | x, .non => Q (.bl (!decide (x = .non))) H
  | .bl a, .bl b => Q (.bl (!decide (a = b))) H
  | _, _ => False
def uIn (K : PySem.W.Frag) : R2 := fun x y H Q => match x, y with
  | .str i, .str j => Q (.bl (!(Builtin.Str.occurrences j i 0 j.length 1).isEmpty)) H
  | x, y => rIn K false x y H Q
def uNotIn (K : PySem.W.Frag) : R2 := fun x y H Q => match x, y with
  | .str i, .str j => Q (.bl (!(!(Builtin.Str.occurrences j i 0 j.length 1).isEmpty))) H
  | x, y => rIn K true x y H Q

section
variable {X : Cx}
theorem op_uAdd : OpR X (binaryOp .Add) (uAdd X.K) := by
  intro pins s σ H x y v u Q I rx ry h
  cases x <;> cases y <;> first | exact h.elim | skip
  · exact op_add pins s σ H _ _ _ _ Q I rx ry ⟨_, _, rfl, rfl, h⟩
  · exact op_add_str pins s σ H _ _ _ _ Q I rx ry ⟨_, _, rfl, rfl, h.1, h.2⟩
  · rcases h with h | h
    · exact op_cat pins s σ H _ _ _ _ Q I rx ry h
    · exact op_catA pins s σ H _ _ _ _ Q I rx ry h
theorem op_uSub : OpR X (binaryOp .Sub) uSub := by
  intro pins s σ H x y v u Q I rx ry h
  cases x <;> cases y <;> first | exact h.elim | skip
  exact op_sub pins s σ H _ _ _ _ Q I rx ry ⟨_, _, rfl, rfl, h⟩
theorem op_uMul : OpR X (binaryOp .Mult) uMul := by
  intro pins s σ H x y v u Q I rx ry h
  cases x <;> cases y <;> first | exact h.elim | skip
  rcases h with ⟨h | h, q⟩
  · exact op_mul pins s σ H _ _ _ _ Q I rx ry ⟨_, _, rfl, rfl, h, q⟩
  · exact op_mulW pins s σ H _ _ _ _ Q I rx ry ⟨_, _, rfl, rfl, h, q⟩
theorem op_uDiv : OpR X (binaryOp .FloorDiv) uDiv := by
  intro pins s σ H x y v u Q I rx ry h
  cases x <;> cases y <;> first | exact h.elim | skip
  exact op_fdivW pins s σ H _ _ _ _ Q I rx ry ⟨_, _, rfl, rfl, h.1, h.2⟩
theorem op_uMod : OpR X (binaryOp .Mod) uMod := by
  intro pins s σ H x y v u Q I rx ry h
  cases x <;> cases y <;> first | exact h.elim | skip
  exact op_mod pins s σ H _ _ _ _ Q I rx ry ⟨_, _, rfl, rfl, h.1, h.2⟩
theorem op_uPow : OpR X (binaryOp .Pow) uPow := by
  intro pins s σ H x y v u Q I rx ry h
  cases x <;> cases y <;> first | exact h.elim | skip
  exact op_pow pins s σ H _ _ _ _ Q I rx ry ⟨_, _, rfl, rfl, h.1, h.2⟩
theorem un_uNeg : UnR X (unaryOp .USub) uNeg := by
  intro pins s σ H x v Q I rx h
  cases x <;> first | exact h.elim | skip
  exact un_neg pins s σ H _ _ Q I rx ⟨_, rfl, h⟩
theorem op_ltP (hu : X.A.units < cLine) {pins : List (Addr × Obj)} {s : Shared} {σ : L2.St} {H : Hp} {a b : Addr} {Q : VK} (I : Inv X pins σ H s) (h : rLtP X.K a b H Q) :
    wpAny (model X.prog X.w) X.A (compareOp .Lt (.ref a) (.ref b)) (EP X pins σ Q) X.xe s := by
  obtain ⟨xs, ys, ha, hb, hk, q⟩ := h
  obtain ⟨us, r1, p1, _⟩ := I.tuple ha
  obtain ⟨vs, r2, p2, _⟩ := I.tuple hb
  have l1 := r1.length
  have l2 := r2.length
  have both : ∀ (j : Nat) (h1 : j < us.toArray.size) (h2 : j < vs.toArray.size), ∃ x y : V, xs[j]? = some x ∧ ys[j]? = some y ∧ RelV x us.toArray[j] ∧ RelV y vs.toArray[j] := by
    intro j h1 h2
    have k1 : j < us.length := by simpa using h1
    have k2 : j < vs.length := by simpa using h2
    obtain ⟨u, eu, ru⟩ := Vals.get r1 (List.getElem?_eq_getElem (show j < xs.length by omega))
    obtain ⟨v, ev, rv⟩ := Vals.get r2 (List.getElem?_eq_getElem (show j < ys.length by omega))
    refine ⟨_, _, List.getElem?_eq_getElem (show j < xs.length by omega), List.getElem?_eq_getElem (show j < ys.length by omega), ?_, ?_⟩
    · rw [List.getElem?_eq_getElem k1] at eu
      have : us.toArray[j] = u := by simpa using Option.some.inj eu
      rw [this]; exact ru
    · rw [List.getElem?_eq_getElem k2] at ev
      have : vs.toArray[j] = v := by simpa using Option.some.inj ev
      rw [this]; exact rv
  have R := Ob.RcOp.tuples_lt (A := X.A) (s := s) (e := fun j => decide (xs[j]? = ys[j]?)) (r := ltV2 xs ys) p1 p2 hu (fun j h1 h2 => by
    obtain ⟨x, y, ex, ey, rx, ry⟩ := both j h1 h2
    have k := hk j x y ex ey
    rw [ex, ey]
    cases x <;> cases y <;> first | exact Bool.noConfusion (show false = true from k) | skip
    · rename_i i i'
      obtain ⟨t, et⟩ := rx
      obtain ⟨t', et'⟩ := ry
      rw [et, et', show decide (some (V.int i) = some (V.int i')) = (i == i') by rw [Bool.eq_iff_iff]; simp]
      exact SeqAt.EqAt.int_int _ _ _ _
    · rename_i i i'
      obtain ⟨t, et⟩ := rx
      obtain ⟨t', et'⟩ := ry
      rw [et, et', show decide (some (V.str i) = some (V.str i')) = (i == i') by rw [Bool.eq_iff_iff]; simp]
      exact SeqAt.EqAt.str_str _ _ _ _) (fun j h1 h2 _ => by
    obtain ⟨x, y, ex, ey, rx, ry⟩ := both j h1 h2
    have k := hk j x y ex ey
    rw [show ltV2 xs ys j = ltV1 x y by unfold ltV2; rw [ex, ey]]
    cases x <;> cases y <;> first | exact Bool.noConfusion (show false = true from k) | skip
    · obtain ⟨t, et⟩ := rx
      obtain ⟨t', et'⟩ := ry
      rw [et, et']
      exact Ob.RcOp.lt_int _ _ _ _
    · obtain ⟨t, et⟩ := rx
      obtain ⟨t', et'⟩ := ry
      rw [et, et']
      exact fun _ _ _ _ h => PyProof.Rows.lt_str (by simpa [ltV1] using h))
  rw [show us.toArray.size = xs.length by simpa using l1.symm, show vs.toArray.size = ys.length by simpa using l2.symm] at R
  exact R X.prog X.w X.xe (EP X pins σ Q) ⟨.bl _, H, I, rfl, q⟩
theorem op_uLt (hu : X.A.units + 64 < cLine) : OpR X (compareOp .Lt) (uLt X.K) := by
  intro pins s σ H x y v u Q I rx ry h
  cases x <;> cases y <;> first | exact h.elim | skip
  · exact op_lt pins s σ H _ _ _ _ Q I rx ry ⟨_, _, rfl, rfl, h⟩
  · exact op_lt_str pins s σ H _ _ _ _ Q I rx ry ⟨_, _, rfl, rfl, h⟩
  · rcases h with h | h
    · exact op_ltT (by omega) pins s σ H _ _ _ _ Q I rx ry h
    · cases rx; cases ry; exact op_ltP (by omega) I h
theorem op_uLe : OpR X (compareOp .LtE) uLe := by
  intro pins s σ H x y v u Q I rx ry h
  cases x <;> cases y <;> first | exact h.elim | skip
  · exact op_le pins s σ H _ _ _ _ Q I rx ry ⟨_, _, rfl, rfl, h⟩
  · exact op_le_str pins s σ H _ _ _ _ Q I rx ry ⟨_, _, rfl, rfl, h⟩
theorem op_uGt : OpR X (compareOp .Gt) uGt := by
  intro pins s σ H x y v u Q I rx ry h
  cases x <;> cases y <;> first | exact h.elim | skip
  · exact op_gt pins s σ H _ _ _ _ Q I rx ry ⟨_, _, rfl, rfl, h⟩
  · exact op_gt_str pins s σ H _ _ _ _ Q I rx ry ⟨_, _, rfl, rfl, h⟩
theorem op_uGe : OpR X (compareOp .GtE) uGe := by
  intro pins s σ H x y v u Q I rx ry h
  cases x <;> cases y <;> first | exact h.elim | skip
  · exact op_ge pins s σ H _ _ _ _ Q I rx ry ⟨_, _, rfl, rfl, h⟩
  · exact op_ge_str pins s σ H _ _ _ _ Q I rx ry ⟨_, _, rfl, rfl, h⟩
theorem V_int_dec {i j : Int} : decide (V.int i = V.int j) = decide (i = j) := by
  rw [Bool.eq_iff_iff]; simp
theorem V_str_dec {i j : Str} : decide (V.str i = V.str j) = decide (i = j) := by
  rw [Bool.eq_iff_iff]; simp
theorem V_bl_dec {i j : Bool} : decide (V.bl i = V.bl j) = decide (i = j) := by
  rw [Bool.eq_iff_iff]; simp
theorem op_uEq (hu : X.A.units + 64 < cLine) : OpR X (compareOp .Eq) (uEq X.K) := by
  intro pins s σ H x y v u Q I rx ry h
  have gen : (scal x y = true ∧ Q (.bl (decide (x = y))) H) ∨ rEqD X.K x y H Q → _ := fun z => (op_eq.or (op_eqD hu)) pins s σ H x y v u Q I rx ry z
  cases x <;> cases y <;> first | exact gen h | skip
  · exact gen (.inl ⟨rfl, h⟩)
  · exact gen (.inl ⟨rfl, by rw [V_bl_dec]; exact h⟩)
  · exact gen (.inl ⟨rfl, by rw [V_int_dec]; exact h⟩)
  · exact gen (.inl ⟨rfl, by rw [V_str_dec]; exact h⟩)
  · rcases h with h | h
    · exact gen (.inr h)
    · cases rx; cases ry; exact (op_sqB hu I).1 h
theorem op_uNe (hu : X.A.units + 64 < cLine) : OpR X (compareOp .NotEq) (uNe X.K) := by
  intro pins s σ H x y v u Q I rx ry h
  have gen : (scal x y = true ∧ Q (.bl (!decide (x = y))) H) ∨ rNeD X.K x y H Q → _ := fun z => (op_ne.or (op_neD hu)) pins s σ H x y v u Q I rx ry z
  cases x <;> cases y <;> first | exact gen h | skip
  · exact gen (.inl ⟨rfl, h⟩)
  · exact gen (.inl ⟨rfl, by rw [V_bl_dec]; exact h⟩)
  · exact gen (.inl ⟨rfl, by rw [V_int_dec]; exact h⟩)
  · exact gen (.inl ⟨rfl, by rw [V_str_dec]; exact h⟩)
  · rcases h with h | h
    · exact gen (.inr h)
    · cases rx; cases ry; exact (op_sqB hu I).2 h
theorem op_uIs : OpR X (compareOp .Is) uIs := by
  intro pins s σ H x y v u Q I rx ry h
  cases y <;> first | (cases x <;> exact h.elim) | skip
  · exact op_isN pins s σ H _ _ _ _ Q I rx ry ⟨rfl, by cases x <;> exact h⟩
  · cases x <;> first | exact h.elim | skip
    exact op_is_bl pins s σ H _ _ _ _ Q I rx ry ⟨_, _, rfl, rfl, h⟩
theorem op_uIsNot : OpR X (compareOp .IsNot) uIsNot := by
  intro pins s σ H x y v u Q I rx ry h
  cases y <;> first | (cases x <;> exact h.elim) | skip
  · exact op_notN pins s σ H _ _ _ _ Q I rx ry ⟨rfl, by cases x <;> exact h⟩
  · cases x <;> first | exact h.elim | skip
    exact op_isnot_bl pins s σ H _ _ _ _ Q I rx ry ⟨_, _, rfl, rfl, h⟩
theorem op_uIn : OpR X (compareOp .In) (uIn X.K) := by
  intro pins s σ H x y v u Q I rx ry h
  cases x <;> cases y <;> first | exact op_in_str pins s σ H _ _ _ _ Q I rx ry ⟨_, _, rfl, rfl, h⟩ | exact op_in_seq pins s σ H _ _ _ _ Q I rx ry h
theorem op_uNotIn : OpR X (compareOp .NotIn) (uNotIn X.K) := by
  intro pins s σ H x y v u Q I rx ry h
  cases x <;> cases y <;> first | exact op_notin_str pins s σ H _ _ _ _ Q I rx ry ⟨_, _, rfl, rfl, h⟩ | exact op_notIn_seq pins s σ H _ _ _ _ Q I rx ry h
end

/-! ### items, lengths, kinds -/
def uIx (K : PySem.W.Frag) : R2 := fun x y H Q => match x, y with
  | .ref p, .int i => ∃ xs v, (SqL K H p xs ∨ SqT K H p xs) ∧ atI xs i = some v ∧ Q v H
  | .str z, .int i => ∃ c, z.length ≤ sizeLine ∧ atI z.cps.toList i = some c ∧ Q (.str ⟨#[c]⟩) H
  | _, _ => False
def uLen (K : PySem.W.Frag) : List V → Hp → VK → Prop := fun vs H Q => match vs with
  | [.ref p] => ∃ xs, (SqL K H p xs ∨ SqT K H p xs) ∧ Q (.int xs.length) H
  | [.str z] => z.length ≤ sizeLine ∧ Q (.int z.length) H
  | _ => False
def uInt : List V → Hp → VK → Prop := fun vs H Q => match vs with
  | [.int i] => Q (.int i) H
  | [.bl b] => Q (.int (if b then 1 else 0)) H
  | _ => False
def uMax : List V → Hp → VK → Prop := fun vs H Q => match vs with
  | [.int i, .int j] => Q (.int (if j > i then j else i)) H
  | _ => False
def uMin : List V → Hp → VK → Prop := fun vs H Q => match vs with
  | [.int i, .int j] => Q (.int (if j < i then j else i)) H
  | _ => False
def uAbs : List V → Hp → VK → Prop := fun vs H Q => match vs with
  | [.int i] => Q (.int (if i < 0 then -i else i)) H
  | _ => False
def uList (K : PySem.W.Frag) : List V → Hp → VK → Prop := fun vs H Q => match vs with
  | [.ref p] => ∃ xs, (SqL K H p xs ∨ SqT K H p xs) ∧ ∀ l, H l = none → Q (.ref l) (upd H l (.lst xs))
  | _ => False
def uTuple (K : PySem.W.Frag) : List V → Hp → VK → Prop := fun vs H Q => match vs with
  | [.ref p] => ∃ xs, (SqL K H p xs ∧ ∀ l, H l = none → Q (.ref l) (upd H l (.tup xs))) ∨ (SqT K H p xs ∧ Q (.ref p) H)
  | _ => False
/-- isinstance with one class -/
def uIsi (K : PySem.W.Frag) : List V → Hp → VK → Prop := fun vs H Q => match vs with
  | [x, c] => ∃ (t u : Value) (b : Bool), ClsV c u ∧ TyX K H x t ∧ PySem.W.kitOne K t u = some b ∧ Q (.bl b) H
  | _ => False
def tTru (K : PySem.W.Frag) (ta : TE) : TT := fun σ H Q => ta σ H fun x H' => ∃ k, TruV K x H' k ∧ Q k H'
def tCal (sp : Sp) (t : TA) : TE := fun σ H Q => t σ H fun vs H1 => sp vs H1 Q E0
section
variable {X : Cx}
theorem ix_uIx : IxR X (uIx X.K) := by
  intro ea eb pins s σ H x y v u Q I rx ry h hp
  cases x <;> cases y <;> first | exact h.elim | skip
  · obtain ⟨c, hz, ha, q⟩ := h
    exact ix_str ea eb pins s σ H _ _ _ _ Q I rx ry ⟨_, _, c, rfl, rfl, hz, ha, q⟩ hp
  · obtain ⟨xs, w, hl, ha, q⟩ := h
    rcases hl with hl | hl
    · exact ix_list ea eb pins s σ H _ _ _ _ Q I rx ry ⟨_, xs, _, w, rfl, rfl, hl, ha, q⟩ hp
    · exact ix_tup ea eb pins s σ H _ _ _ _ Q I rx ry ⟨_, xs, _, w, rfl, rfl, hl, ha, q⟩ hp
theorem call_uLen : CallR X (.builtin "len") (uLen X.K) := by
  intro pins s σ H vs us Q I r h
  rcases vs with _ | ⟨x, _ | ⟨y, t⟩⟩
  · exact h.elim
  · cases x <;> first | exact h.elim | skip
    · exact call_len pins s σ H _ _ Q I r ⟨_, _, rfl, ⟨h.1, rfl⟩, h.2⟩
    · obtain ⟨xs, hl, q⟩ := h
      refine call_len pins s σ H _ _ Q I r ⟨_, xs.length, rfl, ?_, q⟩
      rcases hl with hl | hl
      · exact .inl ⟨_, hl, rfl⟩
      · exact .inr ⟨_, hl, rfl⟩
  · cases x <;> exact h.elim
theorem call_uInt : CallR X (.type "int") uInt := by
  intro pins s σ H vs us Q I r h
  rcases vs with _ | ⟨x, _ | ⟨y, t⟩⟩
  · exact h.elim
  · cases x <;> first | exact h.elim | skip
    · exact call_int1 pins s σ H _ _ Q I r (.inr ⟨_, rfl, h⟩)
    · exact call_int1 pins s σ H _ _ Q I r (.inl ⟨_, rfl, h⟩)
  · cases x <;> exact h.elim
theorem call_uAbs : CallR X (.builtin "abs") uAbs := by
  intro pins s σ H vs us Q I r h
  rcases vs with _ | ⟨x, _ | ⟨y, t⟩⟩
  · exact h.elim
  · cases x <;> first | exact h.elim | skip
    exact call_abs pins s σ H _ _ Q I r ⟨_, rfl, h⟩
  · cases x <;> exact h.elim
theorem call_uMax (hc : X.calm = true) : CallR X (.builtin "max") uMax := by
  intro pins s σ H vs us Q I r h
  rcases vs with _ | ⟨x, _ | ⟨y, _ | ⟨z, t⟩⟩⟩
  · exact h.elim
  · cases x <;> exact h.elim
  · cases x <;> cases y <;> first | exact h.elim | skip
    exact call_max2 hc pins s σ H _ _ Q I r ⟨_, _, rfl, h⟩
  · cases x <;> cases y <;> exact h.elim
theorem call_uMin (hc : X.calm = true) : CallR X (.builtin "min") uMin := by
  intro pins s σ H vs us Q I r h
  rcases vs with _ | ⟨x, _ | ⟨y, _ | ⟨z, t⟩⟩⟩
  · exact h.elim
  · cases x <;> exact h.elim
  · cases x <;> cases y <;> first | exact h.elim | skip
    exact call_min2 hc pins s σ H _ _ Q I r ⟨_, _, rfl, h⟩
  · cases x <;> cases y <;> exact h.elim
theorem call_uList : CallR X (.type "list") (uList X.K) := by
  intro pins s σ H vs us Q I r h
  rcases vs with _ | ⟨x, _ | ⟨y, t⟩⟩
  · exact h.elim
  · cases x <;> first | exact h.elim | skip
    obtain ⟨xs, hl, q⟩ := h
    exact call_list_of pins s σ H _ _ Q I r ⟨_, xs, rfl, hl, q⟩
  · cases x <;> exact h.elim
theorem call_uTuple : CallR X (.type "tuple") (uTuple X.K) := by
  intro pins s σ H vs us Q I r h
  rcases vs with _ | ⟨x, _ | ⟨y, t⟩⟩
  · exact h.elim
  · cases x <;> first | exact h.elim | skip
    obtain ⟨xs, hl⟩ := h
    exact call_tuple_of pins s σ H _ _ Q I r ⟨_, xs, rfl, hl⟩
  · cases x <;> exact h.elim
theorem call_uIsi : CallR X (.builtin "isinstance") (uIsi X.K) := by
  intro pins s σ H vs us Q I r h
  rcases vs with _ | ⟨x, _ | ⟨y, _ | ⟨z, t⟩⟩⟩
  · exact h.elim
  · exact h.elim
  · obtain ⟨t, u, b, k, ty, e, q⟩ := h
    exact call_isi pins s σ H _ _ Q I r ⟨_, _, t, u, b, rfl, k, ty, e, q⟩
  · exact h.elim
theorem pt_u {a : Expr} {ta : TE} (ha : PE X a ta) (he : ∀ whole, isTrue a X.env whole = (do let v ← whole; standAt a.pos; holding [v] (truthy v)) := by intro _; rfl) : PT X a (tTru X.K ta) := pt_truth ha he
end

/-! ### a def of the text, as those who call it know it -/
structure Dfn (P : Program) (w : World) (K : PySem.W.Frag) (mg : Str → Option Value) (base : Heap) (k : Nat) (x : Str) (ps : List Str) (sp : Sp) : Prop where
  ex : ∃ (f : Addr) (fd : FuncData), mg x = some (.ref f) ∧ PySem.W.keepIn K (.ref f) = true ∧ Binds K fd ps [] ∧ FnOk P w K mg base CX0 k f fd ps sp
theorem nil_sp (sp : Sp) (t : TA) : tCall sp [] E0 t = tCal sp t := by
  funext σ H Q
  simp only [tCall, tCal, List.append_nil]
section
variable {X : Cx} {k : Nat} {x : Str} {ps : List Str} {sp : Sp} {p pos : Pos} {e : Expr} {es : List Expr} {t : TA}
theorem z_call (D : Dfn X.prog X.w X.K X.mg X.base k x ps sp) (hr : Room k X.A) (hg : Gl X x) (ha : PA X (e :: es) t) (hdb : (x == ("__debug__" : Str)) = false := by decide)
    (he : starEach (e :: es) X.env = (false, eval e X.env) :: starEach es X.env := by rfl) (hpl : (backTo pos (starEach es X.env)).any (·.1) = false := by rfl) : PE X (.Call (.Name x p) (e :: es) [] pos) (tCal sp t) := by
  obtain ⟨f, fd, hm, hk, hb, F⟩ := D.ex
  rw [← nil_sp]
  exact pe_call F hr hg hm hk hb .nil pass0 ha hdb he hpl
theorem z_call0 (D : Dfn X.prog X.w X.K X.mg X.base k x ps sp) (hr : Room k X.A) (hg : Gl X x) (hdb : (x == ("__debug__" : Str)) = false := by decide) : PE X (.Call (.Name x p) [] [] pos) (tCal sp tNil) := by
  obtain ⟨f, fd, hm, hk, hb, F⟩ := D.ex
  rw [← nil_sp]
  exact pe_call0 F hr hg hm hk hb .nil pass0 hdb
/-- a list or a tuple that is walked -/
def iSeq (K : PySem.W.Frag) (tl : TE) : TI := fun σ H R => iList K tl σ H R ∨ iTup K tl σ H R
theorem pi_seq {tg l : Expr} {tl : TE} (hl : PE X l tl) : PI X tg l (iSeq X.K tl) := by
  have h1 := pi_list (tg := tg) hl
  have h2 := pi_tup (tg := tg) hl
  refine ⟨fun pins s σ H R I h => ?_⟩
  rcases h with h | h
  · exact h1.run pins s σ H R I h
  · exact h2.run pins s σ H R I h
end

/-! ### the steps of a reading -/
def zNewL (xs : List V) (H : Hp) (Q : VK) : Prop := xs.length ≤ sizeLine ∧ ∀ p, H p = none → Q (.ref p) (upd H p (.lst xs))
def zNewT (xs : List V) (H : Hp) (Q : VK) : Prop := xs.length ≤ sizeLine ∧ ∀ p, H p = none → Q (.ref p) (upd H p (.tup xs))
section
variable {K : PySem.W.Frag} {σ : St} {H : Hp} {i : Nat} {v : V} {Q : VK} {QA : List V → Hp → Prop} {QB : Bool → Hp → Prop} {r : R2} {r1 : V → Hp → VK → Prop} {rl : List V → Hp → VK → Prop} {ta tb te : TE} {tr t : TA} {c u : TT} {sp : Sp} {xs : List V} {a b : Int} {x y : Str} {p q : Addr} {bb : Bool} {D : Ends} {t1 t2 : TS}
theorem z_var (h : σ[i]? = some (some v)) (k : Q v H) : tVar i σ H Q := ⟨v, h, k⟩
theorem z_c (k : Q v H) : tC v σ H Q := k
theorem z_op (k : ta σ H fun x H1 => tb σ H1 fun y H2 => r x y H2 Q) : tOp r ta tb σ H Q := k
theorem z_un (k : ta σ H fun x H1 => r1 x H1 Q) : tUn r1 ta σ H Q := k
theorem z_cb (k : t σ H fun vs H1 => rl vs H1 Q) : tCB rl t σ H Q := k
theorem z_cal (k : t σ H fun vs H1 => sp vs H1 Q E0) : tCal sp t σ H Q := k
theorem z_nil (k : QA [] H) : tNil σ H QA := k
theorem z_cons (k : ta σ H fun x H1 => tr σ H1 fun xs H2 => QA (x :: xs) H2) : tCons ta tr σ H QA := k
theorem z_lst (k : t σ H fun xs H1 => zNewL xs H1 Q) : tLst t σ H Q := k
theorem z_tup (k : t σ H fun xs H1 => zNewT xs H1 Q) : tTup t σ H Q := k
theorem z_newL (h : xs.length ≤ 100000) (k : ∀ p, H p = none → Q (.ref p) (upd H p (.lst xs))) : zNewL xs H Q := ⟨Nat.le_trans h (by decide), k⟩
theorem z_newT (h : xs.length ≤ 100000) (k : ∀ p, H p = none → Q (.ref p) (upd H p (.tup xs))) : zNewT xs H Q := ⟨Nat.le_trans h (by decide), k⟩
theorem z_test (k : te σ H fun x H' => ∃ k, x = .bl k ∧ QB k H') : tTest te σ H QB := k
theorem z_bl (k : QB bb H) : ∃ k, V.bl bb = .bl k ∧ QB k H := ⟨bb, rfl, k⟩
theorem z_tru (k : te σ H fun x H' => ∃ k, TruV K x H' k ∧ QB k H') : tTru K te σ H QB := k
theorem z_trub {P : Bool → Prop} (k : P bb) : ∃ k, TruV K (.bl bb) H k ∧ P k := ⟨bb, rfl, k⟩
theorem z_trui {P : Bool → Prop} (k : P (a != 0)) : ∃ k, TruV K (.int a) H k ∧ P k := ⟨_, rfl, k⟩
theorem z_and (k : c σ H fun b H1 => if b = true then u σ H1 QB else QB false H1) : tAnd c u σ H QB := k
theorem z_or (k : c σ H fun b H1 => if b = true then QB true H1 else u σ H1 QB) : tOr c u σ H QB := k
theorem z_not (k : c σ H fun b H1 => QB (!b) H1) : tNot c σ H QB := k
theorem z_andV (k : ta σ H fun x H1 => ∃ c, x = .bl c ∧ if c = true then tb σ H1 Q else Q (.bl false) H1) : tAndV ta tb σ H Q := k
theorem z_orV (k : ta σ H fun x H1 => ∃ c, x = .bl c ∧ if c = true then Q (.bl true) H1 else tb σ H1 Q) : tOrV ta tb σ H Q := k
theorem z_notV (k : ta σ H fun x H1 => ∃ c, x = .bl c ∧ Q (.bl (!c)) H1) : tNotV ta σ H Q := k
theorem z_if (k : c σ H fun b H1 => if b = true then ta σ H1 Q else tb σ H1 Q) : tIf c ta tb σ H Q := k
theorem z_bl1 {P : Bool → Prop} (k : P bb) : ∃ k, V.bl bb = .bl k ∧ P k := ⟨bb, rfl, k⟩
-- operators
theorem z_add (k : Q (.int (a + b)) H) : uAdd K (.int a) (.int b) H Q := k
theorem z_addS (h : x.length + y.length ≤ 100000) (k : Q (.str (x ++ y)) H) : uAdd K (.str x) (.str y) H Q := ⟨Nat.le_trans h (by decide), k⟩
theorem z_addL {xs ys : List V} (h1 : H p = some (.lst xs)) (h2 : H q = some (.lst ys)) (h : xs.length + ys.length ≤ 100000) (k : ∀ l, H l = none → Q (.ref l) (upd H l (.lst (xs ++ ys)))) : uAdd K (.ref p) (.ref q) H Q :=
  .inl ⟨p, q, xs, ys, rfl, rfl, h1, h2, Nat.le_trans h (by decide), k⟩
theorem z_sub (k : Q (.int (a - b)) H) : uSub (.int a) (.int b) H Q := k
theorem z_mul (h : MulOk a b) (k : Q (.int (a * b)) H) : uMul (.int a) (.int b) H Q := ⟨h, k⟩
theorem z_div (h : CDivW a b) (k : Q (.int (a / b)) H) : uDiv (.int a) (.int b) H Q := ⟨h, k⟩
theorem z_mod (h : 0 < b) (k : Q (.int (a % b)) H) : uMod (.int a) (.int b) H Q := ⟨h, k⟩
theorem z_pow (h : CPow a b) (k : Q (.int (a ^ b.toNat)) H) : uPow (.int a) (.int b) H Q := ⟨h, k⟩
theorem z_neg (k : Q (.int (-a)) H) : uNeg (.int a) H Q := k
theorem z_lt (k : Q (.bl (decide (a < b))) H) : uLt K (.int a) (.int b) H Q := k
theorem z_ltS (k : Q (.bl (decide (x.cps.toList < y.cps.toList))) H) : uLt K (.str x) (.str y) H Q := k
theorem z_ltIS {i j : Int} {x y : Str} (h1 : SqT K H p [.int i, .str x]) (h2 : SqT K H q [.int j, .str y]) (k : Q (.bl (if i = j then decide (x.cps.toList < y.cps.toList) else decide (i < j))) H) : uLt K (.ref p) (.ref q) H Q := by
  refine .inr ⟨_, _, h1, h2, ?_, ?_⟩
  · intro n u v hu hv
    match n with
    | 0 => cases hu; cases hv; rfl
    | 1 => cases hu; cases hv; rfl
    | n + 2 => cases hu
  · have e : Ob.lexAt (fun n => decide (([V.int i, .str x])[n]? = ([V.int j, .str y])[n]?)) (ltV2 [.int i, .str x] [.int j, .str y]) (decide (([V.int i, .str x] : List V).length < ([V.int j, .str y] : List V).length)) 0 (min ([V.int i, .str x] : List V).length ([V.int j, .str y] : List V).length) = (if i = j then decide (x.cps.toList < y.cps.toList) else decide (i < j)) := by
      show Ob.lexAt _ _ false 0 2 = _
      rw [Ob.lexAt_succ, Ob.lexAt_succ, Ob.lexAt_zero]
      by_cases h : i = j
      · subst h
        rw [if_pos (by simp), if_pos rfl]
        by_cases h2 : x = y
        · subst h2
          rw [if_pos (by simp), decide_eq_false (List.lt_irrefl _)]
        · rw [if_neg (by simp [h2])]; rfl
      · rw [if_neg (by simp [h]), if_neg h]; rfl
    rw [e]; exact k
theorem z_le (k : Q (.bl (decide (a ≤ b))) H) : uLe (.int a) (.int b) H Q := k
theorem z_leS (k : Q (.bl (!decide (y.cps.toList < x.cps.toList))) H) : uLe (.str x) (.str y) H Q := k
theorem z_gt (k : Q (.bl (decide (b < a))) H) : uGt (.int a) (.int b) H Q := k
theorem z_gtS (k : Q (.bl (decide (y.cps.toList < x.cps.toList))) H) : uGt (.str x) (.str y) H Q := k
theorem z_ge (k : Q (.bl (decide (b ≤ a))) H) : uGe (.int a) (.int b) H Q := k
theorem z_geS (k : Q (.bl (!decide (x.cps.toList < y.cps.toList))) H) : uGe (.str x) (.str y) H Q := k
theorem z_eq (k : Q (.bl (decide (a = b))) H) : uEq K (.int a) (.int b) H Q := k
theorem z_eqS (k : Q (.bl (decide (x = y))) H) : uEq K (.str x) (.str y) H Q := k
theorem z_eqB {a b : Bool} (k : Q (.bl (decide (a = b))) H) : uEq K (.bl a) (.bl b) H Q := k
theorem z_eqN (k : Q (.bl true) H) : uEq K .non .non H Q := k
theorem z_eqIS (k : Q (.bl false) H) : uEq K (.int a) (.str x) H Q := .inl ⟨rfl, by rw [decide_eq_false (by intro z; cases z)]; exact k⟩
theorem z_eqSI (k : Q (.bl false) H) : uEq K (.str x) (.int a) H Q := .inl ⟨rfl, by rw [decide_eq_false (by intro z; cases z)]; exact k⟩
theorem z_eqD {d e : PyData} (h1 : Dp K H (.ref p) d) (h2 : Dp K H (.ref q) e) (s1 : SeqAt.shaped d = true) (s2 : SeqAt.shaped e = true) (k : Q (.bl (PyData.eqv d e)) H) : uEq K (.ref p) (.ref q) H Q := .inl ⟨d, e, h1, h2, s1, s2, k⟩
theorem z_ne (k : Q (.bl (!decide (a = b))) H) : uNe K (.int a) (.int b) H Q := k
theorem z_neS (k : Q (.bl (!decide (x = y))) H) : uNe K (.str x) (.str y) H Q := k
theorem z_neB {a b : Bool} (k : Q (.bl (!decide (a = b))) H) : uNe K (.bl a) (.bl b) H Q := k
theorem z_neN (k : Q (.bl false) H) : uNe K .non .non H Q := k
theorem z_neIS (k : Q (.bl true) H) : uNe K (.int a) (.str x) H Q := .inl ⟨rfl, by rw [decide_eq_false (by intro z; cases z)]; exact k⟩
theorem z_neSI (k : Q (.bl true) H) : uNe K (.str x) (.int a) H Q := .inl ⟨rfl, by rw [decide_eq_false (by intro z; cases z)]; exact k⟩
theorem z_neD {d e : PyData} (h1 : Dp K H (.ref p) d) (h2 : Dp K H (.ref q) e) (s1 : SeqAt.shaped d = true) (s2 : SeqAt.shaped e = true) (k : Q (.bl (!PyData.eqv d e)) H) : uNe K (.ref p) (.ref q) H Q := .inl ⟨d, e, h1, h2, s1, s2, k⟩
theorem allB_true {xs ys : List V} {e : Nat → Bool} (hl : xs.length = ys.length) (h : ∀ i, i < xs.length → e i = true) : allB xs ys e = true := by
  unfold allB
  rw [← hl, Nat.min_self, beq_self_eq_true, Bool.and_true, List.all_eq_true]
  exact fun i hi => h i (List.mem_range.mp hi)
/-- surely equal -/
theorem z_eqSame {n : Nat} {xs ys : List V} (hn : n ≤ 16) (hs : sameSq K H p q xs ys) (hl : xs.length = ys.length) (he : ∀ (i : Nat) (x y : V), xs[i]? = some x → ys[i]? = some y → EqB K H n x y true) (k : Q (.bl true) H) : uEq K (.ref p) (.ref q) H Q :=
  .inr ⟨n, xs, ys, fun _ => true, hn, hs, he, by rw [allB_true hl fun _ _ => rfl]; exact k⟩
theorem z_neSame {n : Nat} {xs ys : List V} (hn : n ≤ 16) (hs : sameSq K H p q xs ys) (hl : xs.length = ys.length) (he : ∀ (i : Nat) (x y : V), xs[i]? = some x → ys[i]? = some y → EqB K H n x y true) (k : Q (.bl false) H) : uNe K (.ref p) (.ref q) H Q :=
  .inr ⟨n, xs, ys, fun _ => true, hn, hs, he, by rw [allB_true hl fun _ _ => rfl]; exact k⟩
theorem EqB.self : ∀ {v : V}, (flatV v = true ∨ ∃ a, v = .ref a) → EqB K H 0 v v true := by
  intro v h
  rcases h with h | ⟨a, rfl⟩
  · refine .inl ⟨h, h, ?_⟩
    cases v <;> first | (cases h; done) | (simp [eqV]; done)
  · exact .inr ⟨a, rfl, rfl, rfl⟩
theorem EqB.up {v w : V} {b : Bool} : ∀ {n m : Nat}, n ≤ m → EqB K H n v w b → EqB K H m v w b := by
  intro n m h e
  induction h with
  | refl => exact e
  | step _ ih => exact .inl ih
theorem EqB.sq {n : Nat} {a c : Addr} {xs ys : List V} (hs : sameSq K H a c xs ys) (hl : xs.length = ys.length) (he : ∀ (i : Nat) (x y : V), xs[i]? = some x → ys[i]? = some y → EqB K H n x y true) : EqB K H (n + 1) (.ref a) (.ref c) true :=
  .inr ⟨a, c, xs, ys, fun _ => true, rfl, rfl, hs, he, (allB_true hl fun _ _ => rfl).symm⟩
theorem EqB.str {x y : Str} : EqB K H 0 (.str x) (.str y) (decide (x = y)) := .inl ⟨rfl, rfl, by simp only [eqV]; rw [Bool.eq_iff_iff, decide_eq_true_iff, beq_iff_eq]⟩
theorem EqB.int {x y : Int} : EqB K H 0 (.int x) (.int y) (decide (x = y)) := .inl ⟨rfl, rfl, by simp only [eqV]; rw [Bool.eq_iff_iff, decide_eq_true_iff, beq_iff_eq]⟩
theorem EqB.of {n : Nat} {a c : Addr} {xs ys : List V} {e : Nat → Bool} {b : Bool} (hs : sameSq K H a c xs ys) (he : ∀ (i : Nat) (x y : V), xs[i]? = some x → ys[i]? = some y → EqB K H n x y (e i)) (hb : b = allB xs ys e) : EqB K H (n + 1) (.ref a) (.ref c) b := .inr ⟨a, c, xs, ys, e, rfl, rfl, hs, he, hb⟩
theorem z_eqOf {n : Nat} {xs ys : List V} {e : Nat → Bool} {b : Bool} (hn : n ≤ 16) (hs : sameSq K H p q xs ys) (he : ∀ (i : Nat) (x y : V), xs[i]? = some x → ys[i]? = some y → EqB K H n x y (e i)) (hb : b = allB xs ys e) (k : Q (.bl b) H) : uEq K (.ref p) (.ref q) H Q := .inr ⟨n, xs, ys, e, hn, hs, he, by rw [← hb]; exact k⟩
theorem z_neOf {n : Nat} {xs ys : List V} {e : Nat → Bool} {b : Bool} (hn : n ≤ 16) (hs : sameSq K H p q xs ys) (he : ∀ (i : Nat) (x y : V), xs[i]? = some x → ys[i]? = some y → EqB K H n x y (e i)) (hb : b = allB xs ys e) (k : Q (.bl (!b)) H) : uNe K (.ref p) (.ref q) H Q := .inr ⟨n, xs, ys, e, hn, hs, he, by rw [← hb]; exact k⟩
theorem z_is (k : Q (.bl (decide (v = .non))) H) : uIs v .non H Q := by cases v <;> exact k
theorem z_isNot (k : Q (.bl (!decide (v = .non))) H) : uIsNot v .non H Q := by cases v <;> exact k
theorem z_isB {a b : Bool} (k : Q (.bl (decide (a = b))) H) : uIs (.bl a) (.bl b) H Q := k
theorem z_isNotB {a b : Bool} (k : Q (.bl (!decide (a = b))) H) : uIsNot (.bl a) (.bl b) H Q := k
theorem z_in (h : SqL K H p xs ∨ SqT K H p xs) (hx : flatV v = true) (ha : xs.all flatV = true) (k : Q (.bl (inV v xs)) H) : uIn K v (.ref p) H Q := by
  cases v <;> exact ⟨p, xs, rfl, h, hx, ha, k⟩
theorem z_notIn (h : SqL K H p xs ∨ SqT K H p xs) (hx : flatV v = true) (ha : xs.all flatV = true) (k : Q (.bl (!inV v xs)) H) : uNotIn K v (.ref p) H Q := by
  cases v <;> exact ⟨p, xs, rfl, h, hx, ha, k⟩
theorem z_isbb {a : Bool} (k : Q (.bl true) H) : uIsi K [.bl a, .ty "bool"] H Q := ⟨_, _, true, .ty _, .base (.bl a), rfl, k⟩
theorem z_isbi {a : Bool} (k : Q (.bl true) H) : uIsi K [.bl a, .ty "int"] H Q := ⟨_, _, true, .ty _, .base (.bl a), rfl, k⟩
theorem z_isll (h : H p = some (.lst xs)) (k : Q (.bl true) H) : uIsi K [.ref p, .ty "list"] H Q := ⟨_, _, true, .ty _, .base (.lst h), rfl, k⟩
theorem z_istt (h : H p = some (.tup xs)) (k : Q (.bl true) H) : uIsi K [.ref p, .ty "tuple"] H Q := ⟨_, _, true, .ty _, .base (.tup h), rfl, k⟩
theorem z_chain {r r' : R2} {tc : TE} (k : ta σ H fun x H1 => tb σ H1 fun y H2 => r x y H2 fun z H3 => ∃ k, z = .bl k ∧ if k = true then tc σ H3 fun w H4 => r' y w H4 Q else Q (.bl false) H3) : tChain r r' ta tb tc σ H Q := k
-- items, built-ins
theorem z_ix (h : SqL K H p xs ∨ SqT K H p xs) (e : atI xs a = some v) (k : Q v H) : uIx K (.ref p) (.int a) H Q := ⟨xs, v, h, e, k⟩
theorem z_len (h : SqL K H p xs ∨ SqT K H p xs) (k : Q (.int xs.length) H) : uLen K [.ref p] H Q := ⟨xs, h, k⟩
theorem z_int (k : Q (.int a) H) : uInt [.int a] H Q := k
theorem z_max (k : Q (.int (if b > a then b else a)) H) : uMax [.int a, .int b] H Q := k
theorem z_min (k : Q (.int (if b < a then b else a)) H) : uMin [.int a, .int b] H Q := k
theorem z_abs (k : Q (.int (if a < 0 then -a else a)) H) : uAbs [.int a] H Q := k
theorem z_list (h : SqL K H p xs ∨ SqT K H p xs) (k : ∀ l, H l = none → Q (.ref l) (upd H l (.lst xs))) : uList K [.ref p] H Q := ⟨xs, h, k⟩
theorem z_tupleL (h : SqL K H p xs) (k : ∀ l, H l = none → Q (.ref l) (upd H l (.tup xs))) : uTuple K [.ref p] H Q := ⟨xs, .inl ⟨h, k⟩⟩
theorem z_tupleT (h : SqT K H p xs) (k : Q (.ref p) H) : uTuple K [.ref p] H Q := ⟨xs, .inr ⟨h, k⟩⟩
theorem z_isi {w : V} {t' u' : Value} (h1 : ClsV w u') (h2 : TyX K H v t') (h3 : PySem.W.kitOne K t' u' = some bb) (k : Q (.bl bb) H) : uIsi K [v, w] H Q := ⟨t', u', bb, h1, h2, h3, k⟩
theorem z_isii (k : Q (.bl true) H) : uIsi K [.int a, .ty "int"] H Q := ⟨_, _, true, .ty _, .base (.int a), rfl, k⟩
theorem z_isib (k : Q (.bl false) H) : uIsi K [.int a, .ty "bool"] H Q := ⟨_, _, false, .ty _, .base (.int a), rfl, k⟩
-- statements
theorem z_seq (k : t1 { D with nx := t2 D } σ H) : tSeq t1 t2 D σ H := k
theorem z_next (k : D.nx σ H) : tNext D σ H := k
theorem z_brk (k : D.bk σ H) : tBreak D σ H := k
theorem z_cont (k : D.ct σ H) : tCont D σ H := k
theorem z_ret (k : te σ H D.rt) : tRet te D σ H := k
theorem z_retN (k : D.rt .non H) : tRetN D σ H := k
theorem z_asg (k : te σ H fun x H1 => D.nx (σ.set i (some x)) H1) : tAsg te (gName i) D σ H := k
theorem z_drop (k : te σ H fun _ H1 => D.nx σ H1) : tDrop te D σ H := k
theorem z_ifS (k : c σ H fun b H1 => if b = true then t1 D σ H1 else t2 D σ H1) : tIfS c t1 t2 D σ H := k
theorem z_iteT {A B : Prop} (k : A) : if true = true then A else B := by rw [if_pos rfl]; exact k
theorem z_iteF {A B : Prop} (k : B) : if false = true then A else B := by rw [if_neg Bool.false_ne_true]; exact k
theorem z_iteT' {A B : Prop} (e : bb = true) (k : A) : if bb = true then A else B := by rw [if_pos e]; exact k
theorem z_iteF' {A B : Prop} (e : bb = false) (k : B) : if bb = true then A else B := by rw [if_neg (by rw [e]; exact Bool.false_ne_true)]; exact k
theorem z_ite {A B : Prop} (h1 : bb = true → A) (h2 : bb = false → B) : if bb = true then A else B := by
  cases bb with
  | true => rw [if_pos rfl]; exact h1 rfl
  | false => rw [if_neg Bool.false_ne_true]; exact h2 rfl
theorem z_itD {A B P : Prop} [Decidable P] (h1 : P → A) (h2 : ¬ P → B) : if decide P = true then A else B := by
  by_cases h : P
  · rw [if_pos (decide_eq_true h)]; exact h1 h
  · rw [if_neg (by rw [decide_eq_false h]; exact Bool.false_ne_true)]; exact h2 h
theorem z_itN {A B P : Prop} [Decidable P] (h1 : ¬ P → A) (h2 : P → B) : if (!decide P) = true then A else B := by
  by_cases h : P
  · rw [decide_eq_true h, if_neg (by decide)]; exact h2 h
  · rw [decide_eq_false h, if_pos (by decide)]; exact h1 h
-- loops
def zRng (g : TG) (tb : TS) (D : Ends) (σ : St) (lo : Int) (n : Nat) (H1 : Hp) : Prop := ∃ W : Nat → Nat → St → Hp → Prop, (∃ m, W 0 m σ H1) ∧ ∀ i m σ H, W i m σ H →
  ((Itr lo n).stop i H ∧ D.nx σ H) ∨ ((Itr lo n).go i H ∧ ∃ N : St → Hp → Prop, (∀ σ' H', N σ' H' → ∃ m', m' < m ∧ W (i + 1) m' σ' H') ∧ ∀ x H', (Itr lo n).yld i H x H' → g x σ H' fun σ2 H2 => tb { D with nx := N, ct := N, bk := D.nx } σ2 H2)
def zRng1 (g : TG) (tb : TS) (D : Ends) (σ : St) (vs : List V) (H1 : Hp) : Prop := ∃ j : Int, vs = [.int j] ∧ -(2 ^ 62) ≤ j ∧ j < 2 ^ 62 ∧ zRng g tb D σ 0 j.toNat H1
def zRng2 (g : TG) (tb : TS) (D : Ends) (σ : St) (vs : List V) (H1 : Hp) : Prop := ∃ i j : Int, vs = [.int i, .int j] ∧ (-(2 ^ 62) ≤ i ∧ i < 2 ^ 62 ∧ -(2 ^ 62) ≤ j ∧ j < 2 ^ 62) ∧ zRng g tb D σ i (j - i).toNat H1
def zIt (K : PySem.W.Frag) (g : TG) (tb : TS) (D : Ends) (σ : St) (v : V) (H1 : Hp) : Prop := ∃ a xs, v = .ref a ∧ ((SqL K H1 a xs ∧ ∃ W : Nat → Nat → St → Hp → Prop, (∃ m, W 0 m σ H1) ∧ ∀ i m σ H, W i m σ H →
  ((Itl K a).stop i H ∧ D.nx σ H) ∨ ((Itl K a).go i H ∧ ∃ N : St → Hp → Prop, (∀ σ' H', N σ' H' → ∃ m', m' < m ∧ W (i + 1) m' σ' H') ∧ ∀ x H', (Itl K a).yld i H x H' → g x σ H' fun σ2 H2 => tb { D with nx := N, ct := N, bk := D.nx } σ2 H2)) ∨
  (SqT K H1 a xs ∧ ∃ W : Nat → Nat → St → Hp → Prop, (∃ m, W 0 m σ H1) ∧ ∀ i m σ H, W i m σ H →
  ((Itt K a).stop i H ∧ D.nx σ H) ∨ ((Itt K a).go i H ∧ ∃ N : St → Hp → Prop, (∀ σ' H', N σ' H' → ∃ m', m' < m ∧ W (i + 1) m' σ' H') ∧ ∀ x H', (Itt K a).yld i H x H' → g x σ H' fun σ2 H2 => tb { D with nx := N, ct := N, bk := D.nx } σ2 H2)))
def iSq (K : PySem.W.Frag) (tl : TE) : TI := fun σ H R => tl σ H fun x H1 => ∃ a, x = .ref a ∧ (((∃ xs, SqL K H1 a xs) ∧ R (Itl K a) H1) ∨ ((∃ xs, SqT K H1 a xs) ∧ R (Itt K a) H1))
variable {g : TG} {ti : TS}
theorem z_for1 (k : t σ H fun vs H1 => zRng1 g ti D σ vs H1) : tFor (iRng1 t) g ti D σ H := k
theorem z_for2 (k : t σ H fun vs H1 => zRng2 g ti D σ vs H1) : tFor (iRng2 t) g ti D σ H := k
theorem z_rng1 {j : Int} (hb : j ≤ 1000000) (h : zRng g ti D σ 0 j.toNat H) (hb2 : -1000000 ≤ j) : zRng1 g ti D σ [.int j] H := ⟨j, rfl, by omega, by omega, h⟩
theorem z_rng2 {i j : Int} (h : zRng g ti D σ i (j - i).toNat H) (hb : -1000000 ≤ i ∧ i ≤ 1000000 ∧ -1000000 ≤ j ∧ j ≤ 1000000) : zRng2 g ti D σ [.int i, .int j] H := ⟨i, j, rfl, by omega, h⟩
/-- over a range: Pv by turns done, slots, heap -/
theorem z_rng {lo : Int} {n v : Nat} (Pv : Nat → St → Hp → Prop) (h0 : Pv 0 σ H)
    (hs : ∀ i σ H, i < n → Pv i σ H → ti { D with nx := Pv (i + 1), ct := Pv (i + 1), bk := D.nx } (σ.set v (some (.int (lo + i)))) H) (hd : ∀ σ H, Pv n σ H → D.nx σ H) : zRng (gName v) ti D σ lo n H :=
  for_range (g := gName v) (tb := ti) (D := D) Pv h0 hs hd
theorem z_while (Pv : Nat → St → Hp → Prop) (m : Nat) (h0 : Pv m σ H)
    (hs : ∀ m σ H, Pv m σ H → c σ H fun b H1 => if b = true then ∃ N : St → Hp → Prop, (∀ σ' H', N σ' H' → ∃ m', m' < m ∧ Pv m' σ' H') ∧ ti { D with nx := N, ct := N, bk := D.nx } σ H1 else D.nx σ H1) : tWhile c ti D σ H :=
  ⟨Pv, ⟨m, h0⟩, hs⟩
theorem z_turn {m : Nat} {Pv : Nat → St → Hp → Prop} {bk : St → Hp → Prop} (k : ti { D with nx := fun σ' H' => ∃ m', m' < m ∧ Pv m' σ' H', ct := fun σ' H' => ∃ m', m' < m ∧ Pv m' σ' H', bk := bk } σ H) :
    ∃ N : St → Hp → Prop, (∀ σ' H', N σ' H' → ∃ m', m' < m ∧ Pv m' σ' H') ∧ ti { D with nx := N, ct := N, bk := bk } σ H := ⟨_, fun _ _ h => h, k⟩
theorem mul1 (h : -1000000000000000000 < a ∧ a < 1000000000000000000) : MulOk a b := .inl (.inl (by omega))
theorem mul2 (h : -1000000000000000000 < b ∧ b < 1000000000000000000) : MulOk a b := .inl (.inr (by omega))
theorem div1 (h : 0 < b ∧ b < 1000000000000000000) : CDivW a b := wide_div h.1 (b := 64) (by omega) (by decide) (by decide)
end
/-! ### heaps -/
theorem lk_ne {H : Hp} {a b : Addr} {o u : HO} (h : a ≠ b) (e : H a = some u) : upd H b o a = some u := by rw [upd_ne h]; exact e
theorem ne_n {H : Hp} {a b : Addr} {o : HO} (h' : H b = none) (h : H a = some o) : a ≠ b := ne_of_none h h'
theorem sqL_new {K : PySem.W.Frag} {H : Hp} {a b : Addr} {o : HO} {xs : List V} (h : H b = none) (e : SqL K H a xs) : SqL K (upd H b o) a xs := by
  rcases e with (e | ⟨u, e⟩) | e
  · exact .inl (.inl (lk_ne (ne_of_none e h) e))
  · exact .inl (.inr ⟨u, lk_ne (ne_of_none e h) e⟩)
  · exact .inr e
theorem sqT_new {K : PySem.W.Frag} {H : Hp} {a b : Addr} {o : HO} {xs : List V} (h : H b = none) (e : SqT K H a xs) : SqT K (upd H b o) a xs := by
  rcases e with (e | ⟨u, e⟩) | e
  · exact .inl (.inl (lk_ne (ne_of_none e h) e))
  · exact .inl (.inr ⟨u, lk_ne (ne_of_none e h) e⟩)
  · exact .inr e
theorem sqL_ne {K : PySem.W.Frag} {H : Hp} {a b : Addr} {o : HO} {xs : List V} (h : a ≠ b) (e : SqL K H a xs) : SqL K (upd H b o) a xs := by
  rcases e with (e | ⟨u, e⟩) | e
  · exact .inl (.inl (lk_ne h e))
  · exact .inl (.inr ⟨u, lk_ne h e⟩)
  · exact .inr e
theorem sqT_ne {K : PySem.W.Frag} {H : Hp} {a b : Addr} {o : HO} {xs : List V} (h : a ≠ b) (e : SqT K H a xs) : SqT K (upd H b o) a xs := by
  rcases e with (e | ⟨u, e⟩) | e
  · exact .inl (.inl (lk_ne h e))
  · exact .inl (.inr ⟨u, lk_ne h e⟩)
  · exact .inr e
/-- what stands there is no state of draws -/
def NotSt (o : HO) : Prop := ∀ (L : Addr) (k a : Int), o ≠ .lst [.ref L, .int k, .int a]
theorem NotSt.ints {ns : List Int} : NotSt (.lst (ns.map V.int)) := fun L k a z => by
  cases ns with
  | nil => cases z
  | cons x r => injection z with z; injection z with z1 _; cases z1
theorem NotSt.refs {ps : List Addr} : NotSt (.lst (ps.map V.ref)) := fun L k a z => by
  cases ps with
  | nil => cases z
  | cons x r => cases r with
    | nil => cases z
    | cons y t => injection z with z; injection z with _ z; injection z with z _; cases z
theorem NotSt.strs {xs : List Str} : NotSt (.lst (xs.map V.str)) := fun L k a z => by
  cases xs with
  | nil => cases z
  | cons x r => injection z with z; injection z with z1 _; cases z1
/-- all that was tracked is as it was, but the states of draws -/
def ExD (H H' : Hp) : Prop := ∀ a o, NotSt o → H a = some o → H' a = some o
theorem ExD.lk {a : Addr} {H H' : Hp} {o : HO} (x : ExD H H') (e : H a = some o) (h : NotSt o) : H' a = some o := x a o h e
theorem ExD.refl (H : Hp) : ExD H H := fun _ _ _ e => e
theorem ExD.trans {H H1 H2 : Hp} (x : ExD H H1) (y : ExD H1 H2) : ExD H H2 := fun a o h e => y a o h (x a o h e)
theorem ExD.new {p : Addr} {H H1 : Hp} {o : HO} (h : H p = none) (x : ExD H H1) : ExD H (upd H1 p o) := fun a u ha e => lk_ne (ne_of_none e h) (x a u ha e)
theorem ExD.of {H H' : Hp} (x : Same H H') : ExD H H' := fun a o _ e => x a o e
theorem ExD.st {st L : Addr} {k a : Int} {H H1 : Hp} {o : HO} (e : H st = some (.lst [.ref L, .int k, .int a])) (x : ExD H H1) : ExD H (upd H1 st o) := fun b u hb f => by
  refine lk_ne (fun z => ?_) (x b u hb f)
  subst z; rw [e] at f; exact hb L k a (Option.some.inj f).symm
theorem Same.lk {a : Addr} {H H' : Hp} {o : HO} (x : Same H H') (e : H a = some o) : H' a = some o := x a o e
theorem lk_new {H : Hp} {a b : Addr} {o u : HO} (h : H b = none) (e : H a = some u) : upd H b o a = some u := lk_ne (ne_of_none e h) e
theorem lk_df {H : Hp} {a b : Addr} {o u w : HO} (e : H a = some u) (f : H b = some w) (d : u ≠ w) : upd H b o a = some u := lk_ne (fun z => by subst z; rw [e] at f; exact d (Option.some.inj f)) e

section
variable {K : PySem.W.Frag} {σ : St} {H : Hp} {Q : VK} {te ta tb : TE} {t u : TS} {D : Ends} {p : Addr} {xs : List V} {a : Int} {v : V} {j : Nat}
theorem z_cutI (k : t { D with nx := u D } σ H) : tCut t u D σ H := ⟨u D, k, fun _ _ h => h⟩
theorem z_cut (M : St → Hp → Prop) (k : t { D with nx := M } σ H) (h : ∀ σ' H', M σ' H' → u D σ' H') : tCut t u D σ H := ⟨M, k, h⟩
theorem z_asgS (k : te σ H fun x H1 => ta σ H1 fun o H2 => tb σ H2 fun i H3 => rSetL o i x H3 fun H4 => D.nx σ H4) : tAsg te (gSub ta tb rSetL) D σ H := k
theorem z_setL {Q : Hp → Prop} (h : H p = some (.lst xs)) (e : ixN xs.length a = some j) (k : Q (upd H p (.lst (xs.set j v)))) : rSetL (.ref p) (.int a) v H Q := ⟨p, xs, a, j, rfl, rfl, h, e, k⟩
theorem z_app (h : H p = some (.lst xs)) (hl : xs.length < 100000) (k : Q .non (upd H p (.lst (xs ++ [v])))) : rAppend (.ref p) [v] H Q := ⟨p, xs, v, rfl, rfl, h, Nat.lt_of_lt_of_le hl (by decide), k⟩
theorem tyL (h : H p = some (.lst xs)) : tyV K "list" (.ref p) H := Or.inl ⟨rfl, _, Or.inl (Or.inl h)⟩
theorem z_bm {T : String} {r : V → List V → Hp → VK → Prop} {to : TE} {t : TA} (k : to σ H fun x H1 => tyV K T x H1 ∧ t σ H1 fun xs H2 => r x xs H2 Q) : tBM K T r to t σ H Q := k
theorem upd_self {H : Hp} {a : Addr} {o : HO} (h : H a = some o) : upd H a o = H := by
  funext b; unfold upd; split
  · rename_i e; subst e; exact h.symm
  · rfl
theorem ix_at {α : Type} {xs : List α} {i : Int} (h0 : 0 ≤ i) (h1 : i < xs.length) : ixN xs.length i = some i.toNat := by
  unfold ixN; rw [if_pos h0, if_pos h1]
theorem at_int {ns : List Int} {i : Int} (h0 : 0 ≤ i) (h1 : i < ns.length) : atI (ns.map V.int) i = some (.int (ns.getD i.toNat 0)) := by
  unfold atI
  rw [ix_at h0 (by simpa using h1)]
  have : i.toNat < ns.length := by omega
  simp [List.getD, this]
end
/-- a body keeps its promise, from the promise as it was handed in -/
def Wd (T : TS) (N : List Str) (n : Nat) (sp : Sp) : Prop := ∀ (vs : List V) (H : Hp) (Q : VK) (E : XK), sp vs H Q E → vs.length = n ∧ T { nx := fun _ H' => Q .non H', rt := Q } (start N vs) H

/-! ### comprehensions -/
def zLcR (g : TG) (tt : TT) (te : TE) (vs : List Nat) (σ : St) (lo : Int) (n : Nat) (H1 : Hp) (Q : VK) : Prop := ∀ D, H1 D = none → ∃ W : Nat → Nat → Hp → Prop, (∃ m, W 0 m (upd H1 D (.lst []))) ∧ ∀ i m H, W i m H →
  ((Itr lo n).stop i H ∧ Q (.ref D) H) ∨ ((Itr lo n).go i H ∧ ∃ Nx : Hp → Prop, (∀ H', Nx H' → ∃ m', m' < m ∧ W (i + 1) m' H') ∧ ∀ x H', (Itr lo n).yld i H x H' → g x (wipe σ vs) H' fun σ2 H2 => wipe σ2 vs = wipe σ vs ∧ tt σ2 H2 fun b H3 =>
    if b = true then te σ2 H3 fun y H4 => ∃ acc, H4 D = some (.lst acc) ∧ acc.length < sizeLine ∧ Nx (upd H4 D (.lst (acc ++ [y]))) else Nx H3)
def zLcR1 (g : TG) (tt : TT) (te : TE) (vs : List Nat) (σ : St) (as : List V) (H1 : Hp) (Q : VK) : Prop := ∃ j : Int, as = [.int j] ∧ -(2 ^ 62) ≤ j ∧ j < 2 ^ 62 ∧ zLcR g tt te vs σ 0 j.toNat H1 Q
def zLcL (K : PySem.W.Frag) (g : TG) (tt : TT) (te : TE) (vs : List Nat) (σ : St) (a : Addr) (H1 : Hp) (Q : VK) : Prop := ∀ D, H1 D = none → ∃ W : Nat → Nat → Hp → Prop, (∃ m, W 0 m (upd H1 D (.lst []))) ∧ ∀ i m H, W i m H →
  ((Itl K a).stop i H ∧ Q (.ref D) H) ∨ ((Itl K a).go i H ∧ ∃ Nx : Hp → Prop, (∀ H', Nx H' → ∃ m', m' < m ∧ W (i + 1) m' H') ∧ ∀ x H', (Itl K a).yld i H x H' → g x (wipe σ vs) H' fun σ2 H2 => wipe σ2 vs = wipe σ vs ∧ tt σ2 H2 fun b H3 =>
    if b = true then te σ2 H3 fun y H4 => ∃ acc, H4 D = some (.lst acc) ∧ acc.length < sizeLine ∧ Nx (upd H4 D (.lst (acc ++ [y]))) else Nx H3)
def zLcT (K : PySem.W.Frag) (g : TG) (tt : TT) (te : TE) (vs : List Nat) (σ : St) (a : Addr) (H1 : Hp) (Q : VK) : Prop := ∀ D, H1 D = none → ∃ W : Nat → Nat → Hp → Prop, (∃ m, W 0 m (upd H1 D (.lst []))) ∧ ∀ i m H, W i m H →
  ((Itt K a).stop i H ∧ Q (.ref D) H) ∨ ((Itt K a).go i H ∧ ∃ Nx : Hp → Prop, (∀ H', Nx H' → ∃ m', m' < m ∧ W (i + 1) m' H') ∧ ∀ x H', (Itt K a).yld i H x H' → g x (wipe σ vs) H' fun σ2 H2 => wipe σ2 vs = wipe σ vs ∧ tt σ2 H2 fun b H3 =>
    if b = true then te σ2 H3 fun y H4 => ∃ acc, H4 D = some (.lst acc) ∧ acc.length < sizeLine ∧ Nx (upd H4 D (.lst (acc ++ [y]))) else Nx H3)
def zLcS (K : PySem.W.Frag) (g : TG) (tt : TT) (te : TE) (vs : List Nat) (σ : St) (x : V) (H1 : Hp) (Q : VK) : Prop := ∃ a, x = .ref a ∧ (((∃ xs, SqL K H1 a xs) ∧ zLcL K g tt te vs σ a H1 Q) ∨ ((∃ xs, SqT K H1 a xs) ∧ zLcT K g tt te vs σ a H1 Q))
def zForS (K : PySem.W.Frag) (g : TG) (tb : TS) (D : Ends) (σ : St) (x : V) (H1 : Hp) : Prop := ∃ a, x = .ref a ∧ (((∃ xs, SqL K H1 a xs) ∧ ∃ W : Nat → Nat → St → Hp → Prop, (∃ m, W 0 m σ H1) ∧ ∀ i m σ H, W i m σ H →
  ((Itl K a).stop i H ∧ D.nx σ H) ∨ ((Itl K a).go i H ∧ ∃ N : St → Hp → Prop, (∀ σ' H', N σ' H' → ∃ m', m' < m ∧ W (i + 1) m' σ' H') ∧ ∀ x H', (Itl K a).yld i H x H' → g x σ H' fun σ2 H2 => tb { D with nx := N, ct := N, bk := D.nx } σ2 H2)) ∨
  ((∃ xs, SqT K H1 a xs) ∧ ∃ W : Nat → Nat → St → Hp → Prop, (∃ m, W 0 m σ H1) ∧ ∀ i m σ H, W i m σ H →
  ((Itt K a).stop i H ∧ D.nx σ H) ∨ ((Itt K a).go i H ∧ ∃ N : St → Hp → Prop, (∀ σ' H', N σ' H' → ∃ m', m' < m ∧ W (i + 1) m' σ' H') ∧ ∀ x H', (Itt K a).yld i H x H' → g x σ H' fun σ2 H2 => tb { D with nx := N, ct := N, bk := D.nx } σ2 H2)))

section
open PyProof.Rows
theorem pi_sq {X : Cx} {tg l : Expr} {tl : TE} (hl : PE X l tl) : PI X tg l (iSq X.K tl) := by
  refine ⟨fun pins s σ H R I h => ?_⟩
  refine thn (hl.run pins s σ H _ I h) fun v s1 ⟨x, H1, I1, r1, q1⟩ => ?_
  obtain ⟨a, e, q1⟩ := q1
  subst e
  cases r1
  rcases q1 with ⟨⟨xs, hq⟩, q⟩ | ⟨⟨xs, hq⟩, q⟩
  · obtain ⟨its, rv, p, hz⟩ := I1.list hq
    refine wpAny_pyIter_list p.isList ?_
    refine ⟨s1.heap.objs.size, [s1.heap.objs.size], _, _, H1, rfl, I1.kept (t' := s1.toks) fun b o e => Heap.get?_push_of_some _ e, turn_list a _, ⟨_, Heap.get?_push_size _ rfl, rfl, rfl⟩, fun b hb => ?_, q⟩
    have e : b = s1.heap.objs.size := by simpa using hb
    subst e
    exact I1.fpOk (Nat.le_refl _) (I1.hok.fresh (Nat.le_refl _))
  · obtain ⟨its, rv, p, hz⟩ := I1.tuple hq
    refine wpAny_pyIter_tuple (show s1.heap.IsTuple a its.toArray from p) ?_
    refine ⟨s1.heap.objs.size, [s1.heap.objs.size], _, _, H1, rfl, I1.kept (t' := s1.toks) fun b o e => Heap.get?_push_of_some _ e, turn_tuple a _, ⟨_, Heap.get?_push_size _ rfl, rfl, rfl⟩, fun b hb => ?_, q⟩
    have e : b = s1.heap.objs.size := by simpa using hb
    subst e
    exact I1.fpOk (Nat.le_refl _) (I1.hok.fresh (Nat.le_refl _))
end
section
variable {K : PySem.W.Frag} {σ : L2.St} {H : Hp} {Q : VK} {D : Ends} {tt : TT} {te tl : TE} {ta : TA} {vs : List Nat} {g : TG} {tb : TS} {a : Addr} {xs : List V}
theorem z_forSq (k : tl σ H fun x H1 => zForS K g tb D σ x H1) : tFor (iSq K tl) g tb D σ H := k
theorem z_lcSq (k : tl σ H fun x H1 => zLcS K g tt te vs σ x H1 Q) : tLc (iSq K tl) g tt te vs σ H Q := k
theorem z_lc1 (k : ta σ H fun as H1 => zLcR1 g tt te vs σ as H1 Q) : tLc (iRng1 ta) g tt te vs σ H Q := k
theorem z_yes {QB : Bool → Hp → Prop} (k : QB true H) : tYes σ H QB := k
theorem z_accum {D : Addr} {acc : List V} {P : List V → Prop} (h : H D = some (.lst acc)) (hl : acc.length < 100000) (k : P acc) : ∃ acc, H D = some (.lst acc) ∧ acc.length < sizeLine ∧ P acc :=
  ⟨acc, h, Nat.lt_of_lt_of_le hl (by decide), k⟩
/-- over a list that stays -/
theorem z_forL (h : SqL K H a xs) (Pv : Nat → L2.St → Hp → Prop) (h0 : Pv 0 σ H) (hl : ∀ i σ' H', i ≤ xs.length → Pv i σ' H' → SqL K H' a xs)
    (hs : ∀ i x σ' H', xs[i]? = some x → Pv i σ' H' → g x σ' H' fun σ2 H2 => tb { D with nx := Pv (i + 1), ct := Pv (i + 1), bk := D.nx } σ2 H2) (hd : ∀ σ' H', Pv xs.length σ' H' → D.nx σ' H') : zForS K g tb D σ (.ref a) H :=
  ⟨a, rfl, .inl ⟨⟨xs, h⟩, for_list Pv h0 hl hs hd⟩⟩
theorem z_forT (h : SqT K H a xs) (Pv : Nat → L2.St → Hp → Prop) (h0 : Pv 0 σ H) (hl : ∀ i σ' H', i ≤ xs.length → Pv i σ' H' → SqT K H' a xs)
    (hs : ∀ i x σ' H', xs[i]? = some x → Pv i σ' H' → g x σ' H' fun σ2 H2 => tb { D with nx := Pv (i + 1), ct := Pv (i + 1), bk := D.nx } σ2 H2) (hd : ∀ σ' H', Pv xs.length σ' H' → D.nx σ' H') : zForS K g tb D σ (.ref a) H :=
  ⟨a, rfl, .inr ⟨⟨xs, h⟩, for_tup Pv h0 hl hs hd⟩⟩
theorem z_gName {v : V} {i : Nat} {P : L2.St → Hp → Prop} (k : P (σ.set i (some v)) H) : gName i v σ H P := k
theorem z_lcr1 {j : Int} (hb : -1000000 ≤ j ∧ j ≤ 1000000) (k : zLcR g tt te vs σ 0 j.toNat H Q) : zLcR1 g tt te vs σ [.int j] H Q := ⟨j, rfl, by omega, by omega, k⟩
theorem z_lcr {lo : Int} {n : Nat} (Pv : Addr → Nat → Hp → Prop) (h0 : ∀ D, H D = none → Pv D 0 (upd H D (.lst [])))
    (hs : ∀ D i H', H D = none → i < n → Pv D i H' → g (.int (lo + i)) (wipe σ vs) H' fun σ2 H2 => wipe σ2 vs = wipe σ vs ∧ tt σ2 H2 fun b H3 =>
      if b = true then te σ2 H3 fun y H4 => ∃ acc, H4 D = some (.lst acc) ∧ acc.length < sizeLine ∧ Pv D (i + 1) (upd H4 D (.lst (acc ++ [y]))) else Pv D (i + 1) H3)
    (hd : ∀ D H', H D = none → Pv D n H' → Q (.ref D) H') : zLcR g tt te vs σ lo n H Q :=
  fun D hD => lc_range (Pv D) (h0 D hD) (fun i H' hi p => hs D i H' hD hi p) (fun H' p => hd D H' hD p)
theorem z_lcl (h : SqL K H a xs) (Pv : Addr → Nat → Hp → Prop) (h0 : ∀ D, H D = none → Pv D 0 (upd H D (.lst []))) (hl : ∀ D i H', H D = none → i ≤ xs.length → Pv D i H' → SqL K H' a xs)
    (hs : ∀ D i x H', H D = none → xs[i]? = some x → Pv D i H' → g x (wipe σ vs) H' fun σ2 H2 => wipe σ2 vs = wipe σ vs ∧ tt σ2 H2 fun b H3 =>
      if b = true then te σ2 H3 fun y H4 => ∃ acc, H4 D = some (.lst acc) ∧ acc.length < sizeLine ∧ Pv D (i + 1) (upd H4 D (.lst (acc ++ [y]))) else Pv D (i + 1) H3)
    (hd : ∀ D H', H D = none → Pv D xs.length H' → Q (.ref D) H') : zLcS K g tt te vs σ (.ref a) H Q :=
  ⟨a, rfl, .inl ⟨⟨xs, h⟩, fun D hD => lc_list (Pv D) (h0 D hD) (fun i H' hi p => hl D i H' hD hi p) (fun i x H' hi p => hs D i x H' hD hi p) (fun H' p => hd D H' hD p)⟩⟩
theorem z_lct (h : SqT K H a xs) (Pv : Addr → Nat → Hp → Prop) (h0 : ∀ D, H D = none → Pv D 0 (upd H D (.lst []))) (hl : ∀ D i H', H D = none → i ≤ xs.length → Pv D i H' → SqT K H' a xs)
    (hs : ∀ D i x H', H D = none → xs[i]? = some x → Pv D i H' → g x (wipe σ vs) H' fun σ2 H2 => wipe σ2 vs = wipe σ vs ∧ tt σ2 H2 fun b H3 =>
      if b = true then te σ2 H3 fun y H4 => ∃ acc, H4 D = some (.lst acc) ∧ acc.length < sizeLine ∧ Pv D (i + 1) (upd H4 D (.lst (acc ++ [y]))) else Pv D (i + 1) H3)
    (hd : ∀ D H', H D = none → Pv D xs.length H' → Q (.ref D) H') : zLcS K g tt te vs σ (.ref a) H Q :=
  ⟨a, rfl, .inr ⟨⟨xs, h⟩, fun D hD => lc_tup (Pv D) (h0 D hD) (fun i H' hi p => hl D i H' hD hi p) (fun i x H' hi p => hs D i x H' hD hi p) (fun H' p => hd D H' hD p)⟩⟩
end
/-! ### zip -/
def zZip (K : PySem.W.Frag) (g : TG) (tb : TS) (D : Ends) (σ : L2.St) (vs : List V) (H1 : Hp) : Prop := ∃ a b xs ys, vs = [.ref a, .ref b] ∧ ((SqL K H1 a xs ∧ SqL K H1 b ys ∧ ∃ W : Nat → Nat → L2.St → Hp → Prop, (∃ m, W 0 m σ H1) ∧ ∀ i m σ H, W i m σ H →
  ((Itz K a b).stop i H ∧ D.nx σ H) ∨ ((Itz K a b).go i H ∧ ∃ N : L2.St → Hp → Prop, (∀ σ' H', N σ' H' → ∃ m', m' < m ∧ W (i + 1) m' σ' H') ∧ ∀ x H', (Itz K a b).yld i H x H' → g x σ H' fun σ2 H2 => tb { D with nx := N, ct := N, bk := D.nx } σ2 H2)) ∨
  (SqT K H1 a xs ∧ SqT K H1 b ys ∧ ∃ W : Nat → Nat → L2.St → Hp → Prop, (∃ m, W 0 m σ H1) ∧ ∀ i m σ H, W i m σ H →
  ((RZ.ItzT K a b).stop i H ∧ D.nx σ H) ∨ ((RZ.ItzT K a b).go i H ∧ ∃ N : L2.St → Hp → Prop, (∀ σ' H', N σ' H' → ∃ m', m' < m ∧ W (i + 1) m' σ' H') ∧ ∀ x H', (RZ.ItzT K a b).yld i H x H' → g x σ H' fun σ2 H2 => tb { D with nx := N, ct := N, bk := D.nx } σ2 H2)))
theorem Same.sqT {K : PySem.W.Frag} {H H' : Hp} {a : Addr} {xs : List V} (e : Same H H') (h : SqT K H a xs) : SqT K H' a xs := by
  rcases h with (h | ⟨o, h⟩) | h
  · exact .inl (.inl (e _ _ h))
  · exact .inl (.inr ⟨o, e _ _ h⟩)
  · exact .inr h
theorem Same.new {H H' : Hp} {p : Addr} {o : HO} (h : H' p = none) (e : Same H H') : Same H (upd H' p o) := fun b u q => lk_ne (ne_of_none (e b u q) h) (e b u q)
section
variable {K : PySem.W.Frag} {σ : L2.St} {H : Hp} {D : Ends} {ta : TA} {g : TG} {tb : TS} {a b : Addr} {xs ys : List V}
theorem z_forZ (k : ta σ H fun vs H1 => zZip K g tb D σ vs H1) : tFor (RZ.iZipA K ta) g tb D σ H := k
theorem z_zip {u v : Nat} (h : (SqL K H a xs ∧ SqL K H b ys) ∨ (SqT K H a xs ∧ SqT K H b ys)) (Pv : Nat → L2.St → Hp → Prop) (h0 : Pv 0 σ H) (hk : ∀ i σ' H', Pv i σ' H' → Same H H')
    (hs : ∀ i x y p σ' H', xs[i]? = some x → ys[i]? = some y → Pv i σ' H' → H' p = none → tb { D with nx := Pv (i + 1), ct := Pv (i + 1), bk := D.nx } ((σ'.set u (some x)).set v (some y)) (upd H' p (.tup [x, y])))
    (hd : ∀ σ' H', Pv (min xs.length ys.length) σ' H' → D.nx σ' H') : zZip K (gTup K 2 (gCons (gName u) (gCons (gName v) gNil))) tb D σ [.ref a, .ref b] H := by
  refine ⟨a, b, xs, ys, rfl, ?_⟩
  rcases h with ⟨h1, h2⟩ | ⟨h1, h2⟩
  · refine .inl ⟨h1, h2, fun i m σ H => m = min xs.length ys.length - i ∧ i ≤ min xs.length ys.length ∧ Pv i σ H, ⟨_, rfl, Nat.zero_le _, h0⟩, ?_⟩
    rintro i m σ' H' ⟨rfl, hi, p⟩
    have s := hk i σ' H' p
    have q1 := Same.seq s h1
    have q2 := Same.seq s h2
    by_cases hlt : i < min xs.length ys.length
    · have l1 : i < xs.length := by omega
      have l2 : i < ys.length := by omega
      refine .inr ⟨⟨xs, ys, xs[i], ys[i], q1, q2, by simp [l1], by simp [l2]⟩, Pv (i + 1), fun σ2 H2 p' => ⟨_, by omega, rfl, by omega, p'⟩, ?_⟩
      rintro x H2 ⟨T, x1, y1, rfl, hT, rfl, f1, f2⟩
      exact ⟨T, [x1, y1], rfl, .inl (.inl upd_same), rfl, x1, [y1], rfl, y1, [], rfl, rfl, hs i x1 y1 T σ' H' (f1 xs q1) (f2 ys q2) p hT⟩
    · have e : i = min xs.length ys.length := by omega
      subst e
      exact .inl ⟨⟨xs, ys, q1, q2, by omega⟩, hd σ' H' p⟩
  · refine .inr ⟨h1, h2, fun i m σ H => m = min xs.length ys.length - i ∧ i ≤ min xs.length ys.length ∧ Pv i σ H, ⟨_, rfl, Nat.zero_le _, h0⟩, ?_⟩
    rintro i m σ' H' ⟨rfl, hi, p⟩
    have s := hk i σ' H' p
    have q1 := Same.sqT s h1
    have q2 := Same.sqT s h2
    by_cases hlt : i < min xs.length ys.length
    · have l1 : i < xs.length := by omega
      have l2 : i < ys.length := by omega
      refine .inr ⟨⟨xs, ys, xs[i], ys[i], q1, q2, by simp [l1], by simp [l2]⟩, Pv (i + 1), fun σ2 H2 p' => ⟨_, by omega, rfl, by omega, p'⟩, ?_⟩
      rintro x H2 ⟨T, x1, y1, rfl, hT, rfl, f1, f2⟩
      exact ⟨T, [x1, y1], rfl, .inl (.inl upd_same), rfl, x1, [y1], rfl, y1, [], rfl, rfl, hs i x1 y1 T σ' H' (f1 xs q1) (f2 ys q2) p hT⟩
    · have e : i = min xs.length ys.length := by omega
      subst e
      exact .inl ⟨⟨xs, ys, q1, q2, by omega⟩, hd σ' H' p⟩
end
/-- an item of a list of ints -/
theorem map_int {xs : List Int} {i : Nat} {x : V} (h : (xs.map V.int)[i]? = some x) : i < xs.length ∧ x = .int (xs.getD i 0) := by
  rw [List.getElem?_map] at h
  cases e : xs[i]? with
  | none => rw [e] at h; cases h
  | some y =>
    rw [e] at h
    obtain ⟨l, _⟩ := List.getElem?_eq_some_iff.mp e
    exact ⟨l, by rw [List.getD_eq_getElem?_getD, e]; exact (Option.some.inj h).symm⟩
/-- a, b = a pair -/
theorem z_gTup2 {K : PySem.W.Frag} {H : Hp} {σ : L2.St} {P : L2.St → Hp → Prop} {t : Addr} {x y : V} {u v : Nat} (h : SqT K H t [x, y]) (k : P ((σ.set u (some x)).set v (some y)) H) : gTup K 2 (gCons (gName u) (gCons (gName v) gNil)) (.ref t) σ H P :=
  ⟨t, [x, y], rfl, h, rfl, x, [y], rfl, y, [], rfl, rfl, k⟩
/-! ### enumerate -/
def zEnum (K : PySem.W.Frag) (g : TG) (tb : TS) (D : Ends) (σ : L2.St) (vs : List V) (H1 : Hp) : Prop := ∃ a xs, vs = [.ref a] ∧ SqL K H1 a xs ∧ ∃ W : Nat → Nat → L2.St → Hp → Prop, (∃ m, W 0 m σ H1) ∧ ∀ i m σ H, W i m σ H →
  ((Ite K a).stop i H ∧ D.nx σ H) ∨ ((Ite K a).go i H ∧ ∃ N : L2.St → Hp → Prop, (∀ σ' H', N σ' H' → ∃ m', m' < m ∧ W (i + 1) m' σ' H') ∧ ∀ x H', (Ite K a).yld i H x H' → g x σ H' fun σ2 H2 => tb { D with nx := N, ct := N, bk := D.nx } σ2 H2)
def zLcE (K : PySem.W.Frag) (g : TG) (tt : TT) (te : TE) (vs : List Nat) (σ : L2.St) (as : List V) (H1 : Hp) (Q : VK) : Prop := ∃ a xs, as = [.ref a] ∧ SqL K H1 a xs ∧ ∀ D, H1 D = none → ∃ W : Nat → Nat → Hp → Prop, (∃ m, W 0 m (upd H1 D (.lst []))) ∧ ∀ i m H, W i m H →
  ((Ite K a).stop i H ∧ Q (.ref D) H) ∨ ((Ite K a).go i H ∧ ∃ Nx : Hp → Prop, (∀ H', Nx H' → ∃ m', m' < m ∧ W (i + 1) m' H') ∧ ∀ x H', (Ite K a).yld i H x H' → g x (wipe σ vs) H' fun σ2 H2 => wipe σ2 vs = wipe σ vs ∧ tt σ2 H2 fun b H3 =>
    if b = true then te σ2 H3 fun y H4 => ∃ acc, H4 D = some (.lst acc) ∧ acc.length < sizeLine ∧ Nx (upd H4 D (.lst (acc ++ [y]))) else Nx H3)
section
variable {K : PySem.W.Frag} {σ : L2.St} {H : Hp} {D : Ends} {ta : TA} {g : TG} {tb : TS} {a : Addr} {xs : List V} {tt : TT} {te : TE} {vs : List Nat} {Q : VK}
theorem z_forE (k : ta σ H fun vs H1 => zEnum K g tb D σ vs H1) : tFor (iEnum K ta) g tb D σ H := k
theorem z_lcE (k : ta σ H fun as H1 => zLcE K g tt te vs σ as H1 Q) : tLc (iEnum K ta) g tt te vs σ H Q := k
theorem z_enum {u v : Nat} (h : SqL K H a xs) (Pv : Nat → L2.St → Hp → Prop) (h0 : Pv 0 σ H) (hk : ∀ i σ' H', Pv i σ' H' → SqL K H' a xs)
    (hs : ∀ i x p σ' H', xs[i]? = some x → Pv i σ' H' → H' p = none → tb { D with nx := Pv (i + 1), ct := Pv (i + 1), bk := D.nx } ((σ'.set u (some (.int (i : Nat)))).set v (some x)) (upd H' p (.tup [.int (i : Nat), x])))
    (hd : ∀ σ' H', Pv xs.length σ' H' → D.nx σ' H') : zEnum K (gTup K 2 (gCons (gName u) (gCons (gName v) gNil))) tb D σ [.ref a] H := by
  refine ⟨a, xs, rfl, h, fun i m σ H => m = xs.length - i ∧ i ≤ xs.length ∧ Pv i σ H, ⟨_, rfl, Nat.zero_le _, h0⟩, ?_⟩
  rintro i m σ' H' ⟨rfl, hi, p⟩
  have q1 := hk i σ' H' p
  by_cases hlt : i < xs.length
  · refine .inr ⟨⟨xs, xs[i], q1, by simp [hlt]⟩, Pv (i + 1), fun σ2 H2 p' => ⟨_, by omega, rfl, by omega, p'⟩, ?_⟩
    rintro x H2 ⟨T, x1, rfl, hT, rfl, f1⟩
    exact ⟨T, [.int (i : Nat), x1], rfl, .inl (.inl upd_same), rfl, .int (i : Nat), [x1], rfl, x1, [], rfl, rfl, hs i x1 T σ' H' (f1 xs q1) p hT⟩
  · have e : i = xs.length := by omega
    subst e
    exact .inl ⟨⟨xs, q1, by omega⟩, hd σ' H' p⟩
theorem z_lce {u v : Nat} (h : SqL K H a xs) (Pv : Addr → Nat → Hp → Prop) (h0 : ∀ D, H D = none → Pv D 0 (upd H D (.lst []))) (hk : ∀ D i H', H D = none → Pv D i H' → SqL K H' a xs)
    (hs : ∀ D i x p H', H D = none → xs[i]? = some x → Pv D i H' → H' p = none → wipe (((wipe σ vs).set u (some (.int (i : Nat)))).set v (some x)) vs = wipe σ vs ∧ tt (((wipe σ vs).set u (some (.int (i : Nat)))).set v (some x)) (upd H' p (.tup [.int (i : Nat), x])) fun b H3 =>
      if b = true then te (((wipe σ vs).set u (some (.int (i : Nat)))).set v (some x)) H3 fun y H4 => ∃ acc, H4 D = some (.lst acc) ∧ acc.length < sizeLine ∧ Pv D (i + 1) (upd H4 D (.lst (acc ++ [y]))) else Pv D (i + 1) H3)
    (hd : ∀ D H', H D = none → Pv D xs.length H' → Q (.ref D) H') : zLcE K (gTup K 2 (gCons (gName u) (gCons (gName v) gNil))) tt te vs σ [.ref a] H Q := by
  refine ⟨a, xs, rfl, h, fun D hD => ⟨fun i m H => m = xs.length - i ∧ i ≤ xs.length ∧ Pv D i H, ⟨_, rfl, Nat.zero_le _, h0 D hD⟩, ?_⟩⟩
  rintro i m H' ⟨rfl, hi, p⟩
  have q1 := hk D i H' hD p
  by_cases hlt : i < xs.length
  · refine .inr ⟨⟨xs, xs[i], q1, by simp [hlt]⟩, Pv D (i + 1), fun H2 p' => ⟨_, by omega, rfl, by omega, p'⟩, ?_⟩
    rintro x H2 ⟨T, x1, rfl, hT, rfl, f1⟩
    exact ⟨T, [.int (i : Nat), x1], rfl, .inl (.inl upd_same), rfl, .int (i : Nat), [x1], rfl, x1, [], rfl, rfl, hs D i x1 T H' hD (f1 xs q1) p hT⟩
  · have e : i = xs.length := by omega
    subst e
    exact .inl ⟨⟨xs, q1, by omega⟩, hd D H' hD p⟩
end
/-! ### attributes -/
def zFld (K : PySem.W.Frag) (f : Str) (x : V) (H : Hp) (Q : VK) : Prop := ∃ a C dx fs v, x = .ref a ∧ H a = some (.ins C dx fs) ∧ Cls K C ∧ NoAttr K C f ∧ fs.lookup f = some v ∧ Q v H
def zSet (K : PySem.W.Frag) (f : Str) (y x : V) (H : Hp) (N : Hp → Prop) : Prop := ∃ a C dx fs, x = .ref a ∧ H a = some (.ins C dx fs) ∧ Cls K C ∧ NoAttr K C f ∧ fs.length < 1000 ∧ N (upd H a (.ins C dx (putF f y fs)))
theorem z_fldt {K : PySem.W.Frag} {σ : L2.St} {H : Hp} {ta : TE} {f : Str} {Q : VK} (k : ta σ H fun x H1 => zFld K f x H1 Q) : tFld K ta f σ H Q := k
theorem z_sett {K : PySem.W.Frag} {σ : L2.St} {H : Hp} {ta tv : TE} {f : Str} {D : Ends} (k : tv σ H fun y H1 => ta σ H1 fun x H2 => zSet K f y x H2 fun H3 => D.nx σ H3) : sFld K ta tv f D σ H := k
/-! ### slices -/
def uSl (K : PySem.W.Frag) : V → Option Int → Option Int → Hp → VK → Prop := fun x lo hi H Q => match x with
  | .ref a => rSlL K (.ref a) lo hi H Q ∨ rSlA K (.ref a) lo hi H Q
  | .str z => z.length ≤ sizeLine ∧ Q (.str (cutS z lo hi)) H
  | _ => False
theorem sl_uSl {X : Cx} : SlR X (uSl X.K) := by
  intro pins s σ H x v vl vu lo hi sl Q I rx hs pl pu h
  cases x <;> first | exact h.elim | skip
  · exact sl_str pins s σ H _ v vl vu lo hi sl Q I rx hs pl pu ⟨_, rfl, h.1, h.2⟩
  · exact (sl_list.or sl_tupA) pins s σ H _ v vl vu lo hi sl Q I rx hs pl pu h
section
variable {K : PySem.W.Frag} {σ : L2.St} {H : Hp} {Q : VK} {te : TE} {tl th : TO} {p : Addr} {xs : List V} {lo hi : Option Int} {QO : Option Int → Hp → Prop}
theorem z_sl {r : V → Option Int → Option Int → Hp → VK → Prop} (k : te σ H fun x H1 => tl σ H1 fun l H2 => th σ H2 fun u H3 => r x l u H3 Q) : tSl r te tl th σ H Q := k
theorem z_part (k : te σ H fun x H1 => ∃ i, x = .int i ∧ QO (some i) H1) : tPart te σ H QO := k
theorem z_noPart (k : QO none H) : tNoPart σ H QO := k
theorem z_parti {P : Int → Prop} {a : Int} (k : P a) : ∃ i, V.int a = .int i ∧ P i := ⟨a, rfl, k⟩
theorem z_slL (h : SqL K H p xs) (k : ∀ l, H l = none → Q (.ref l) (upd H l (.lst (cutV xs lo hi)))) : uSl K (.ref p) lo hi H Q := .inl ⟨p, xs, rfl, h, k⟩
theorem z_slS {x : Str} (h : x.length ≤ 100000) (k : Q (.str (cutS x lo hi)) H) : uSl K (.str x) lo hi H Q := ⟨Nat.le_trans h (by decide), k⟩
end
theorem cutV_ints (ns : List Int) (lo hi : Option Int) : cutV (ns.map V.int) lo hi = ((ns.drop (HT.sIx ns.length 0 lo)).take (HT.sIx ns.length ns.length hi - HT.sIx ns.length 0 lo)).map V.int := by
  unfold cutV; rw [List.length_map, List.map_take, List.map_drop]
theorem cutV_refs (ps : List Addr) (lo hi : Option Int) : cutV (ps.map V.ref) lo hi = ((ps.drop (HT.sIx ps.length 0 lo)).take (HT.sIx ps.length ps.length hi - HT.sIx ps.length 0 lo)).map V.ref := by
  unfold cutV; rw [List.length_map, List.map_take, List.map_drop]
theorem sIx_pos {n d : Nat} {i : Int} (h : 0 ≤ i) : HT.sIx n d (some i) = min i.toNat n := by
  show (if i < 0 then (i + (n : Int)).toNat else min i.toNat n) = _
  rw [if_neg (by omega)]
/-! ### comprehensions over zip -/
def zLcZ (K : PySem.W.Frag) (g : TG) (tt : TT) (te : TE) (vs : List Nat) (σ : L2.St) (as : List V) (H1 : Hp) (Q : VK) : Prop := ∃ a b xs ys, as = [.ref a, .ref b] ∧ ((SqL K H1 a xs ∧ SqL K H1 b ys ∧ ∀ D, H1 D = none → ∃ W : Nat → Nat → Hp → Prop, (∃ m, W 0 m (upd H1 D (.lst []))) ∧ ∀ i m H, W i m H →
  ((Itz K a b).stop i H ∧ Q (.ref D) H) ∨ ((Itz K a b).go i H ∧ ∃ Nx : Hp → Prop, (∀ H', Nx H' → ∃ m', m' < m ∧ W (i + 1) m' H') ∧ ∀ x H', (Itz K a b).yld i H x H' → g x (wipe σ vs) H' fun σ2 H2 => wipe σ2 vs = wipe σ vs ∧ tt σ2 H2 fun b H3 =>
    if b = true then te σ2 H3 fun y H4 => ∃ acc, H4 D = some (.lst acc) ∧ acc.length < sizeLine ∧ Nx (upd H4 D (.lst (acc ++ [y]))) else Nx H3)) ∨
  (SqT K H1 a xs ∧ SqT K H1 b ys ∧ ∀ D, H1 D = none → ∃ W : Nat → Nat → Hp → Prop, (∃ m, W 0 m (upd H1 D (.lst []))) ∧ ∀ i m H, W i m H →
  ((RZ.ItzT K a b).stop i H ∧ Q (.ref D) H) ∨ ((RZ.ItzT K a b).go i H ∧ ∃ Nx : Hp → Prop, (∀ H', Nx H' → ∃ m', m' < m ∧ W (i + 1) m' H') ∧ ∀ x H', (RZ.ItzT K a b).yld i H x H' → g x (wipe σ vs) H' fun σ2 H2 => wipe σ2 vs = wipe σ vs ∧ tt σ2 H2 fun b H3 =>
    if b = true then te σ2 H3 fun y H4 => ∃ acc, H4 D = some (.lst acc) ∧ acc.length < sizeLine ∧ Nx (upd H4 D (.lst (acc ++ [y]))) else Nx H3)))
section
variable {K : PySem.W.Frag} {σ : L2.St} {H : Hp} {ta : TA} {g : TG} {a b : Addr} {xs ys : List V} {tt : TT} {te : TE} {vs : List Nat} {Q : VK}
theorem z_lcZ (k : ta σ H fun as H1 => zLcZ K g tt te vs σ as H1 Q) : tLc (RZ.iZipA K ta) g tt te vs σ H Q := k
theorem z_lcz {u v : Nat} (h : (SqL K H a xs ∧ SqL K H b ys) ∨ (SqT K H a xs ∧ SqT K H b ys)) (Pv : Addr → Nat → Hp → Prop) (h0 : ∀ D, H D = none → Pv D 0 (upd H D (.lst []))) (hk : ∀ D i H', H D = none → Pv D i H' → Same H H')
    (hs : ∀ D i x y p H', H D = none → xs[i]? = some x → ys[i]? = some y → Pv D i H' → H' p = none → wipe (((wipe σ vs).set u (some x)).set v (some y)) vs = wipe σ vs ∧ tt (((wipe σ vs).set u (some x)).set v (some y)) (upd H' p (.tup [x, y])) fun b H3 =>
      if b = true then te (((wipe σ vs).set u (some x)).set v (some y)) H3 fun z H4 => ∃ acc, H4 D = some (.lst acc) ∧ acc.length < sizeLine ∧ Pv D (i + 1) (upd H4 D (.lst (acc ++ [z]))) else Pv D (i + 1) H3)
    (hd : ∀ D H', H D = none → Pv D (min xs.length ys.length) H' → Q (.ref D) H') : zLcZ K (gTup K 2 (gCons (gName u) (gCons (gName v) gNil))) tt te vs σ [.ref a, .ref b] H Q := by
  refine ⟨a, b, xs, ys, rfl, ?_⟩
  rcases h with ⟨h1, h2⟩ | ⟨h1, h2⟩
  · refine .inl ⟨h1, h2, fun D hD => ⟨fun i m H => m = min xs.length ys.length - i ∧ i ≤ min xs.length ys.length ∧ Pv D i H, ⟨_, rfl, Nat.zero_le _, h0 D hD⟩, ?_⟩⟩
    rintro i m H' ⟨rfl, hi, p⟩
    have s := hk D i H' hD p
    have q1 := Same.seq s h1
    have q2 := Same.seq s h2
    by_cases hlt : i < min xs.length ys.length
    · have l1 : i < xs.length := by omega
      have l2 : i < ys.length := by omega
      refine .inr ⟨⟨xs, ys, xs[i], ys[i], q1, q2, by simp [l1], by simp [l2]⟩, Pv D (i + 1), fun H2 p' => ⟨_, by omega, rfl, by omega, p'⟩, ?_⟩
      rintro x H2 ⟨T, x1, y1, rfl, hT, rfl, f1, f2⟩
      exact ⟨T, [x1, y1], rfl, .inl (.inl upd_same), rfl, x1, [y1], rfl, y1, [], rfl, rfl, hs D i x1 y1 T H' hD (f1 xs q1) (f2 ys q2) p hT⟩
    · have e : i = min xs.length ys.length := by omega
      subst e
      exact .inl ⟨⟨xs, ys, q1, q2, by omega⟩, hd D H' hD p⟩
  · refine .inr ⟨h1, h2, fun D hD => ⟨fun i m H => m = min xs.length ys.length - i ∧ i ≤ min xs.length ys.length ∧ Pv D i H, ⟨_, rfl, Nat.zero_le _, h0 D hD⟩, ?_⟩⟩
    rintro i m H' ⟨rfl, hi, p⟩
    have s := hk D i H' hD p
    have q1 := Same.sqT s h1
    have q2 := Same.sqT s h2
    by_cases hlt : i < min xs.length ys.length
    · have l1 : i < xs.length := by omega
      have l2 : i < ys.length := by omega
      refine .inr ⟨⟨xs, ys, xs[i], ys[i], q1, q2, by simp [l1], by simp [l2]⟩, Pv D (i + 1), fun H2 p' => ⟨_, by omega, rfl, by omega, p'⟩, ?_⟩
      rintro x H2 ⟨T, x1, y1, rfl, hT, rfl, f1, f2⟩
      exact ⟨T, [x1, y1], rfl, .inl (.inl upd_same), rfl, x1, [y1], rfl, y1, [], rfl, rfl, hs D i x1 y1 T H' hD (f1 xs q1) (f2 ys q2) p hT⟩
    · have e : i = min xs.length ys.length := by omega
      subst e
      exact .inl ⟨⟨xs, ys, q1, q2, by omega⟩, hd D H' hD p⟩
end
/-! ### constants of the module -/
theorem z_gint {X : Cx} {x : Str} {i : Int} {pos : Pos} (hm : ∃ t, X.mg x = some (.int i t)) (hg : Gl X x) (hd : (x == ("__debug__" : Str)) = false := by decide) : PE X (.Name x pos) (tC (.int i)) := by
  obtain ⟨t, hm⟩ := hm
  exact pe_glob hg hm ⟨t, rfl⟩ hd
theorem z_gstr {X : Cx} {x y : Str} {pos : Pos} (hm : ∃ t, X.mg x = some (.str y t)) (hg : Gl X x) (hd : (x == ("__debug__" : Str)) = false := by decide) : PE X (.Name x pos) (tC (.str y)) := by
  obtain ⟨t, hm⟩ := hm
  exact pe_glob hg hm ⟨t, rfl⟩ hd

local macro_rules | `(tactic| walk_at "ne") => `(tactic| with_reducible first | assumption | exact Ne.symm (by assumption) | exact ne_n (by assumption) (by assumption) | exact Ne.symm (ne_n (by assumption) (by assumption)))
local macro_rules | `(tactic| walk_at "df") => `(tactic| (intro zz; cases zz; done))
local macro_rules | `(tactic| walk_at "ns") => `(tactic| first | exact NotSt.ints | exact NotSt.refs | exact NotSt.strs | (intro _ _ _ zz; cases zz; done))
local macro_rules | `(tactic| walk_at "lk") => `(tactic| with_reducible first | assumption | ((show upd _ _ _ _ = _); first | exact upd_same | exact lk_new (by assumption) (by walk_at "lk") | ((fail_if_success refine lk_new (by assumption) ?_); first | exact lk_ne (by walk_at "ne") (by walk_at "lk") | exact lk_df (by walk_at "lk") (by walk_at "lk") (by with_unfolding_all walk_at "df"))) | exact ExD.lk (by assumption) (by walk_at "lk") (by with_unfolding_all walk_at "ns") | exact Same.lk (by assumption) (by walk_at "lk"))
local macro_rules | `(tactic| walk_at "sqL") => `(tactic| with_reducible first | assumption | exact SqL.of (by walk_at "lk") | ((show SqL _ (upd _ _ _) _ _); first | exact sqL_new (by assumption) (by walk_at "sqL") | exact sqL_ne (by walk_at "ne") (by walk_at "sqL")) | exact Same.seq (by assumption) (by walk_at "sqL"))
local macro_rules | `(tactic| walk_at "sqT") => `(tactic| with_reducible first | assumption | exact SqT.of (by walk_at "lk") | ((show SqT _ (upd _ _ _) _ _); first | exact sqT_new (by assumption) (by walk_at "sqT") | exact sqT_ne (by walk_at "ne") (by walk_at "sqT")))
local macro_rules | `(tactic| walk_at "sq") => `(tactic| first | exact Or.inl (by walk_at "sqL") | exact Or.inr (by walk_at "sqT"))
local macro_rules | `(tactic| walk_at "mulok") => `(tactic| first | exact mul1 (by omega) | exact mul2 (by omega))
local macro_rules | `(tactic| walk_at "few") => `(tactic| (simp only [List.length_cons, List.length_nil]; with_unfolding_all decide))
local macro_rules | `(tactic| walk_at "zo") => `(tactic| (with_reducible first
  | refine z_add ?_ | refine z_sub ?_ | refine z_lt ?_ | refine z_le ?_ | refine z_gt ?_ | refine z_ge ?_ | refine z_eq ?_ | refine z_ne ?_ | refine z_neg ?_ | refine z_int ?_ | refine z_max ?_ | refine z_min ?_ | refine z_abs ?_
  | refine z_eqS ?_ | refine z_neS ?_ | refine z_eqIS ?_ | refine z_eqSI ?_ | refine z_neIS ?_ | refine z_neSI ?_ | refine z_eqB ?_ | refine z_neB ?_ | refine z_eqN ?_ | refine z_neN ?_ | refine z_is ?_ | refine z_isNot ?_ | refine z_isB ?_ | refine z_isNotB ?_ | refine z_isbb ?_ | refine z_isbi ?_
  | refine z_ltS ?_ | refine z_leS ?_ | refine z_gtS ?_ | refine z_geS ?_ | refine z_isii ?_ | refine z_isib ?_))
local macro_rules | `(tactic| walk_at "zp") => `(tactic| with_reducible first
  | ((show uMul _ _ _ _); refine z_mul (by walk_at "mulok") ?_)
  | ((show uDiv _ _ _ _); refine z_div (by exact div1 (by omega)) ?_)
  | ((show uMod _ _ _ _); refine z_mod (by omega) ?_)
  | ((show uPow _ _ _ _); refine z_pow (by with_unfolding_all exact ⟨by decide, by decide, by decide⟩) ?_; (simp only [Int.reduceToNat, Int.reducePow]))
  | ((show uIx _ _ _ _ _); refine z_ix (by walk_at "sq") (by first | with_unfolding_all rfl | assumption) ?_)
  | ((show uLen _ _ _ _); refine z_len (by walk_at "sq") ?_)
  | ((show uList _ _ _ _); refine z_list (by walk_at "sq") ?_; intro _ _)
  | ((show uSl _ (V.ref _) _ _ _ _); refine z_slL (by walk_at "sqL") ?_; intro _ _)
  | ((show rSetL _ _ _ _ _); refine z_setL (by walk_at "lk") (by with_unfolding_all rfl) ?_)
  | ((show tyV _ "list" _ _ ∧ _); refine ⟨tyL (by walk_at "lk"), ?_⟩)
  | ((show uIsi _ [_, V.ty "list"] _ _); refine z_isll (by walk_at "lk") ?_)
  | ((show uIsi _ [_, V.ty "tuple"] _ _); refine z_istt (by walk_at "lk") ?_)
  | ((show zNewL _ _ _); refine z_newL (by walk_at "few") ?_; intro _ _)
  | ((show zNewT _ _ _); refine z_newT (by walk_at "few") ?_; intro _ _))
local macro_rules | `(tactic| walk_at "ze") => `(tactic| (with_reducible first
  | ((show tVar _ _ _ _); refine z_var (by with_unfolding_all rfl) ?_) | refine z_c ?_ | refine z_op ?_ | refine z_cons ?_ | refine z_nil ?_ | refine z_cal ?_ | refine z_cb ?_ | refine z_test ?_ | refine z_bl ?_ | refine z_un ?_
  | refine z_tru ?_ | refine z_trub ?_ | refine z_trui ?_ | refine z_and ?_ | refine z_or ?_ | refine z_not ?_ | refine z_andV ?_ | refine z_orV ?_ | refine z_notV ?_ | refine z_bl1 ?_ | refine z_if ?_ | refine z_lst ?_ | refine z_tup ?_ | refine z_chain ?_))
local macro_rules | `(tactic| walk_at "zs") => `(tactic| (with_reducible first
  | refine z_seq ?_ | refine z_asg ?_ | refine z_ifS ?_ | refine z_ret ?_ | refine z_drop ?_ | refine z_next ?_ | refine z_brk ?_ | refine z_cont ?_ | refine z_retN ?_ | refine z_iteT ?_ | refine z_iteF ?_ | refine z_for1 ?_ | refine z_for2 ?_ | refine z_asgS ?_ | refine z_bm ?_ | refine z_forSq ?_ | refine z_forZ ?_ | refine z_forE ?_ | refine z_lcE ?_ | refine z_lcZ ?_ | refine z_fldt ?_ | refine z_sett ?_ | refine z_lcSq ?_ | refine z_lc1 ?_ | refine z_yes ?_ | refine z_gName ?_ | refine z_sl ?_ | refine z_part ?_ | refine z_noPart ?_ | refine z_parti ?_))
local macro_rules | `(tactic| walk_at "z") => `(tactic| first | walk_at "ze" | walk_at "zo" | walk_at "zs" | walk_at "zp" | (dsimp only [List.set]))
local macro_rules | `(tactic| walk_at "zz") => `(tactic| repeat (walk_at "z"))
local macro_rules | `(tactic| walk_at "zd") => `(tactic| ((with_reducible show ite _ _ _); first | refine z_iteT' (by decide +kernel) ?_ | refine z_iteF' (by decide +kernel) ?_))
local macro_rules | `(tactic| walk_at "zx") => `(tactic| repeat (first | walk_at "z" | walk_at "zd"))

/-! own classes: what is known of each, by its name -/
/-- where the classes stand, and which there are -/
structure CEnv where
  cls : Str → Addr
  has : Str → Prop
  all : Str → Prop
/-- the package's classes below another one -/
def SUBE : List (Str × Str) := [("InvalidSchema", "SurenearError"), ("InvalidRecord", "SurenearError"), ("InvalidKey", "SurenearError"), ("InvalidFilter", "SurenearError"), ("InvalidQuery", "SurenearError"), ("InvalidRule", "SurenearError"), ("InvalidCode", "SurenearError")]
def SUBE2 : List (Str × Str) := [("InvalidOperation", "SurenearError"), ("InvalidSource", "SurenearError"), ("NoSuchMoment", "SurenearError"), ("NotPinned", "SurenearError"), ("NoSuchQuery", "SurenearError"), ("NotNow", "SurenearError"), ("NotUp", "SurenearError")]
def SUBP : List (Str × Str) := [("Norms", "Fact"), ("Parts", "Fact"), ("Cell", "Fact"), ("Box", "Fact"), ("Differ", "Fact"), ("Counts", "Fact"), ("Names", "Fact"), ("Range", "FieldFact"), ("Values", "FieldFact"), ("Range", "Fact"), ("Values", "Fact"), ("FieldFact", "Fact"),
  ("Every", "Condition"), ("Has", "Condition"), ("Compare", "Condition"), ("OneOf", "Condition"), ("Both", "Condition"), ("Either", "Condition"), ("Negation", "Condition")]
def SUB (x y : Str) : Bool := x == y || SUBP.contains (x, y) || SUBE.contains (x, y) || SUBE2.contains (x, y)
structure ClsOk (K : PySem.W.Frag) (c : CEnv) (x : Str) (gs : List Str) : Prop where
  cl : Cls K (c.cls x)
  na : ∀ f, gs.contains f = true → NoAttr K (c.cls x) f
  ha : PySem.W.findIn K (.ref (c.cls x)) "__class__" = some (some (.builtin "object.__class__"))
  hn : PySem.W.specialIn K (.builtin "object.__class__") "__get__" = some (some (.builtin "getset_descriptor.__get__"))
  htk : PySem.W.takesIn K (.builtin "object.__class__") = some true
  hm : PySem.W.mroIn K (c.cls x) (.type "object") = some true
  sub : ∀ y, c.has y → PySem.W.kitOne K (.ref (c.cls x)) (.ref (c.cls y)) = some (SUB x y)
  sb : ∀ y, c.has y → PySem.W.subIn K (.ref (c.cls x)) (.ref (c.cls y)) = some (SUB x y)
  al : c.all x
  inj : ∀ y, c.all y → c.cls x = c.cls y → x = y
/-- the class named, as isinstance asks of it -/
structure IsF (K : PySem.W.Frag) (c : CEnv) (x : Str) : Prop where
  has : c.has x
  ki : ∀ n, ["int", "bool", "str", "NoneType", "tuple", "list", "dict"].contains n = true → PySem.W.kitOne K (.type n) (.ref (c.cls x)) = some false
  si : ∀ n, ["int", "bool", "str", "NoneType", "tuple", "list", "dict"].contains n = true → PySem.W.subIn K (.type n) (.ref (c.cls x)) = some false
/-- names and places that are all different -/
theorem lk_inj : ∀ {l : List (Str × Addr)}, (l.map (·.1)).Nodup → (l.map (·.2)).Nodup → ∀ {x y : Str}, x ∈ l.map (·.1) → y ∈ l.map (·.1) → (l.lookup x).getD 0 = (l.lookup y).getD 0 → x = y
  | [], _, _, _, _, h, _, _ => by cases h
  | z :: l, h1, h2, x, y, hx, hy, e => by
    rw [List.map_cons, List.nodup_cons] at h1 h2
    have mem : ∀ {u : Str} {l : List (Str × Addr)}, u ∈ l.map (·.1) → ∃ a, l.lookup u = some a ∧ a ∈ l.map (·.2) := by
      intro u l
      induction l with
      | nil => intro h; cases h
      | cons w l ih =>
        intro h
        rw [List.lookup_cons]
        by_cases q : (u == w.1) = true
        · rw [q]; exact ⟨w.2, rfl, by rw [List.map_cons]; exact List.mem_cons_self ..⟩
        · have q' : (u == w.1) = false := by simpa using q
          rw [q']
          rw [List.map_cons] at h
          rcases List.mem_cons.mp h with h | h
          · rw [h] at q; simp at q
          · obtain ⟨a, h1, h2⟩ := ih h
            exact ⟨a, h1, by rw [List.map_cons]; exact List.mem_cons_of_mem _ h2⟩
    rw [List.lookup_cons, List.lookup_cons] at e
    by_cases qx : (x == z.1) = true
    · by_cases qy : (y == z.1) = true
      · rw [beq_iff_eq] at qx qy; rw [qx, qy]
      · have qy' : (y == z.1) = false := by simpa using qy
        rw [qx, qy'] at e
        rw [List.map_cons] at hy
        rcases List.mem_cons.mp hy with hy | hy
        · rw [hy] at qy; simp at qy
        · obtain ⟨a, k1, k2⟩ := mem hy
          rw [k1] at e
          exact absurd (show z.2 ∈ l.map (·.2) from (show z.2 = a from e) ▸ k2) h2.1
    · have qx' : (x == z.1) = false := by simpa using qx
      rw [List.map_cons] at hx hy
      rcases List.mem_cons.mp hx with hx | hx
      · rw [hx] at qx; simp at qx
      · by_cases qy : (y == z.1) = true
        · rw [qx', qy] at e
          obtain ⟨a, k1, k2⟩ := mem hx
          rw [k1] at e
          exact absurd (show z.2 ∈ l.map (·.2) from (show z.2 = a from e.symm) ▸ k2) h2.1
        · have qy' : (y == z.1) = false := by simpa using qy
          rcases List.mem_cons.mp hy with hy | hy
          · rw [hy] at qy; simp at qy
          · rw [qx', qy'] at e
            exact lk_inj h1.2 h2.2 hx hy e
/-- an instance stands at p -/
def InsAt (K : PySem.W.Frag) (c : CEnv) (H : Hp) (p : Addr) (x : Str) (fs : List (Str × V)) : Prop := ClsOk K c x (fs.map (·.1)) ∧ ∃ dx, H p = some (.ins (c.cls x) dx fs)
theorem InsAt.same {K : PySem.W.Frag} {c : CEnv} {H H' : Hp} {p : Addr} {x : Str} {fs : List (Str × V)} (s : Same H H') (i : InsAt K c H p x fs) : InsAt K c H' p x fs := ⟨i.1, i.2.choose, s _ _ i.2.choose_spec⟩
theorem NotSt.ins {C dx : Addr} {fs : List (Str × V)} : NotSt (.ins C dx fs) := fun _ _ _ z => by cases z
theorem NotSt.tup {xs : List V} : NotSt (.tup xs) := fun _ _ _ z => by cases z
theorem InsAt.exd {K : PySem.W.Frag} {c : CEnv} {H H' : Hp} {p : Addr} {x : Str} {fs : List (Str × V)} (s : ExD H H') (i : InsAt K c H p x fs) : InsAt K c H' p x fs := ⟨i.1, i.2.choose, s _ _ NotSt.ins i.2.choose_spec⟩
theorem InsAt.new {K : PySem.W.Frag} {c : CEnv} {H : Hp} {p r : Addr} {x : Str} {fs : List (Str × V)} {o : HO} (h : H r = none) (i : InsAt K c H p x fs) : InsAt K c (upd H r o) p x fs := ⟨i.1, i.2.choose, lk_new h i.2.choose_spec⟩
theorem InsAt.putL {K : PySem.W.Frag} {c : CEnv} {H : Hp} {p r : Addr} {x : Str} {fs : List (Str × V)} {xs : List V} {o : HO} (h : H r = some (.lst xs)) (i : InsAt K c H p x fs) : InsAt K c (upd H r o) p x fs := ⟨i.1, i.2.choose, lk_df i.2.choose_spec h (fun z => by cases z)⟩
/-! ### making, methods, properties, == -/
structure Mkr (P : Program) (w : World) (K : PySem.W.Frag) (mg : Str → Option Value) (base : Heap) (k : Nat) (C : Addr) (ps : List Str) (sp : Sp) : Prop where
  ex : ∃ (f : Addr) (fd : FuncData), Mk K C f ∧ Binds K fd ps [] ∧ FnOk P w K mg base CX0 k f fd ps sp
structure Mth (P : Program) (w : World) (K : PySem.W.Frag) (mg : Str → Option Value) (base : Heap) (k : Nat) (C : Addr) (m : Str) (ps : List Str) (sp : Sp) : Prop where
  ex : ∃ (f : Addr) (fd : FuncData), Meth K C m f ∧ Binds K fd ps [] ∧ FnOk P w K mg base CX0 k f fd ps sp
structure Prp (P : Program) (w : World) (K : PySem.W.Frag) (mg : Str → Option Value) (base : Heap) (k : Nat) (C : Addr) (m : Str) (ps : List Str) (sp : Sp) : Prop where
  ex : ∃ (p f : Addr) (fd : FuncData), PropOf K C m p f ∧ Binds K fd ps [] ∧ FnOk P w K mg base CX0 k f fd ps sp
structure ClsF (K : PySem.W.Frag) (mg : Str → Option Value) (c : CEnv) (x : Str) (gs : List Str) : Prop where
  ok : ClsOk K c x gs
  is : c.has x → IsF K c x
  mg : mg x = some (.ref (c.cls x))
def tMk (K : PySem.W.Frag) (c : CEnv) (x : Str) (gs : List Str) (sp : Sp) (t : TA) : TE := fun σ H Q => t σ H fun vs H1 => ClsOk K c x gs → ∀ p dx, H1 p = none → H1 dx = none → dx ≠ p →
  sp (.ref p :: vs) (upd (upd H1 dx (.own p)) p (.ins (c.cls x) dx [])) (fun v H2 => v = .non ∧ Q (.ref p) H2) E0
def tMt (c : CEnv) (x m : Str) (sp : Sp) (ta : TE) (t : TA) : TE := fun σ H Q => ta σ H fun v H1 => ∃ a dx fs, v = .ref a ∧ H1 a = some (.ins (c.cls x) dx fs) ∧ fs.lookup m = none ∧ t σ H1 fun vs H2 => sp (v :: vs) H2 Q E0
def tPr (c : CEnv) (x : Str) (sp : Sp) (ta : TE) : TE := fun σ H Q => ta σ H fun v H1 => ∃ a dx fs, v = .ref a ∧ H1 a = some (.ins (c.cls x) dx fs) ∧ sp [.ref a] H1 Q E0
def tCls (K : PySem.W.Frag) (c : CEnv) (x : Str) : TE := fun _ H Q => IsF K c x → Q (.ref (c.cls x)) H
/-- == of two instances of one class, by its own __eq__ -/
def uEqO (c : CEnv) (x : Str) (sp : Sp) : R2 := fun u v H Q => ∃ a b dx dy fs gs, u = .ref a ∧ v = .ref b ∧ H a = some (.ins (c.cls x) dx fs) ∧ H b = some (.ins (c.cls x) dy gs) ∧ sp [.ref a, .ref b] H (fun z H' => ∃ k, z = .bl k ∧ Q (.bl k) H') E0
section
variable {X : Cx} {c : CEnv} {k : Nat} {x m : Str} {ps gs : List Str} {sp : Sp} {p pos apos : Pos} {e o : Expr} {es : List Expr} {t : TA} {ta : TE}
theorem z_make (CF : ClsF X.K X.mg c x gs) (M : Mkr X.prog X.w X.K X.mg X.base k (c.cls x) ps sp) (hr : Room (k + 1) X.A) (hg : Gl X x) (ha : PA X (e :: es) t) (hdb : (x == ("__debug__" : Str)) = false := by decide)
    (he : starEach (e :: es) X.env = (false, eval e X.env) :: starEach es X.env := by rfl) (hpl : (backTo pos (starEach es X.env)).any (·.1) = false := by rfl) : PE X (.Call (.Name x p) (e :: es) [] pos) (tMk X.K c x gs sp t) := by
  obtain ⟨f, fd, hM, hb, F⟩ := M.ex
  have h := pe_make (E := E0) (dvs := []) (p := p) (pos := pos) hM F hr hg CF.mg hb .nil pass0 ha hdb he hpl
  refine ⟨fun pins s σ H Q I q => h.run pins s σ H Q I ?_⟩
  simp only [tMake, List.append_nil]
  have e : (t σ H fun vs H1 => ClsOk X.K c x gs → ∀ p dx, H1 p = none → H1 dx = none → dx ≠ p → sp (.ref p :: vs) (upd (upd H1 dx (.own p)) p (.ins (c.cls x) dx [])) (fun v H2 => v = .non ∧ Q (.ref p) H2) E0)
      = (t σ H fun vs H1 => ∀ p dx, H1 p = none → H1 dx = none → dx ≠ p → sp (.ref p :: vs) (upd (upd H1 dx (.own p)) p (.ins (c.cls x) dx [])) (fun v H2 => v = .non ∧ Q (.ref p) H2) E0) := by
    congr 1; funext vs H1; exact propext ⟨fun h => h CF.ok, fun h _ => h⟩
  rw [← e]; exact q
theorem z_meth {pl : Sem Bool} (he : PE X o ta) (CF : ClsF X.K X.mg c x gs) (M : Mth X.prog X.w X.K X.mg X.base k (c.cls x) m ps sp) (hr : Room k X.A) (ha : PA X (e :: es) t)
    (hst : starEach (e :: es) X.env = (false, eval e X.env) :: starEach es X.env := by rfl) (hpl : (backTo pos (starEach es X.env)).any (·.1) = false := by rfl)
    (ht : eval (.Call (.Attribute o m apos) (e :: es) [] pos) X.env = (do
      let ov ← eval o X.env
      standAt apos.atName
      let (f, first) ← holding [ov] (getMethod ov m pl)
      callWith pos f first (backTo pos (starEach (e :: es) X.env)) (backToKw pos (keywordEach [] X.env))) := by rfl) : PE X (.Call (.Attribute o m apos) (e :: es) [] pos) (tMt c x m sp ta t) := by
  obtain ⟨f, fd, hM, hb, F⟩ := M.ex
  have h := pe_meth (E := E0) (dvs := []) he CF.ok.cl hM F hr hb .nil pass0 ha hst hpl ht
  have e : tMeth (c.cls x) m sp [] E0 ta t = tMt c x m sp ta t := by
    funext σ H Q; simp only [tMeth, tMt, List.append_nil]
  rw [← e]; exact h
theorem z_meth0 {pl : Sem Bool} (he : PE X o ta) (CF : ClsF X.K X.mg c x gs) (M : Mth X.prog X.w X.K X.mg X.base k (c.cls x) m ps sp) (hr : Room k X.A)
    (ht : eval (.Call (.Attribute o m apos) [] [] pos) X.env = (do
      let ov ← eval o X.env
      standAt apos.atName
      let (f, first) ← holding [ov] (getMethod ov m pl)
      callWith pos f first (backTo pos (starEach [] X.env)) (backToKw pos (keywordEach [] X.env))) := by rfl) : PE X (.Call (.Attribute o m apos) [] [] pos) (tMt c x m sp ta tNil) := by
  obtain ⟨f, fd, hM, hb, F⟩ := M.ex
  have h := pe_meth0 (E := E0) (dvs := []) he CF.ok.cl hM F hr hb .nil pass0 ht
  refine ⟨fun pins s σ H Q I q => h.run pins s σ H Q I ?_⟩
  first
    | exact q
    | (simp only [List.append_nil] at *; exact q)
theorem z_prop (he : PE X e ta) (CF : ClsF X.K X.mg c x gs) (M : Prp X.prog X.w X.K X.mg X.base k (c.cls x) m ps sp) (hr : Room (k + 1) X.A) (hab : attributeBase e m X.env (eval e X.env) = eval e X.env) : PE X (.Attribute e m pos) (tPr c x sp ta) := by
  obtain ⟨q, f, fd, hM, hb, F⟩ := M.ex
  exact pe_prop (E := E0) (dvs := []) he CF.ok.cl hM F hr hb .nil pass0 hab
theorem z_cls (CF : ClsF X.K X.mg c x gs) (I' : IsF X.K c x) (hg : Gl X x) (hdb : (x == ("__debug__" : Str)) = false := by decide) : PE X (.Name x pos) (tCls X.K c x) :=
  ⟨fun _ _ _ H _ I h => ld_glob I hg CF.mg ⟨.ref (c.cls x), H, I, rfl, h I'⟩ hdb⟩
theorem op_eqO (CF : ClsF X.K X.mg c x gs) (M : Mth X.prog X.w X.K X.mg X.base k (c.cls x) "__eq__" ps sp) (hr : Room k X.A) : OpR X (compareOp .Eq) (uEqO c x sp) := by
  intro pins s σ H u v y z Q I rx ry hq
  obtain ⟨f, fd, hM, hb, F⟩ := M.ex
  obtain ⟨a, b, dx, dy, fs, hs, rfl, rfl, ha, hb', q⟩ := hq
  cases rx
  cases ry
  obtain ⟨mA, J, _⟩ := ins_get I.hok ha
  obtain ⟨mB, J', _⟩ := ins_get I.hok hb'
  obtain ⟨od, J, _⟩ := J.look
  obtain ⟨od', J', _⟩ := J'.look
  obtain ⟨m, hF⟩ := I.fr
  show wpAny (model X.prog X.w) X.A (richCompare .Eq (.ref a) (.ref b)) (EP X pins σ Q) X.xe s
  refine PySem.W.cmp_K (op := .Eq) (tb := .ref (c.cls x)) hr.units0 hF I.ok.mod.kin J J'.type (by simp [PySem.W.notFirst]) hM.at_ hM.fn ?_
  have r2 : Vals [V.ref a, V.ref b] [Value.ref a, Value.ref b] := .cons rfl (.cons rfl .nil)
  refine thn (run_fn (Q := fun z H' => ∃ k, z = .bl k ∧ Q (.bl k) H') (E := E0) (dvs := []) F hr hb .nil pass0 I r2 (by simpa using q)) fun w s' hw => ?_
  obtain ⟨zv, H', I', rz, hq⟩ := hw
  obtain ⟨kk, ez, q'⟩ := hq
  subst ez
  have rz2 : w = Value.bool kk := rz
  subst rz2
  exact ⟨.bl kk, H', I', rfl, q'⟩
end
/-- == of an instance and a tuple, by the instance's own __eq__ -/
def uEqT (K : PySem.W.Frag) (c : CEnv) (x : Str) (sp : Sp) : R2 := fun u v H Q => ∃ a b dx fs xs, u = .ref a ∧ v = .ref b ∧ H a = some (.ins (c.cls x) dx fs) ∧ SqT K H b xs ∧ sp [.ref a, .ref b] H (fun z H' => ∃ k, z = .bl k ∧ Q (.bl k) H') E0
section
variable {X : Cx} {c : CEnv} {k : Nat} {x : Str} {ps gs : List Str} {sp : Sp}
theorem op_eqT (CF : ClsF X.K X.mg c x gs) (IF : IsF X.K c x) (M : Mth X.prog X.w X.K X.mg X.base k (c.cls x) "__eq__" ps sp) (hr : Room k X.A) : OpR X (compareOp .Eq) (uEqT X.K c x sp) := by
  intro pins s σ H u v y z Q I rx ry hq
  obtain ⟨f, fd, hM, hb, F⟩ := M.ex
  obtain ⟨a, b, dx, fs, xs, rfl, rfl, ha, hb', q⟩ := hq
  cases rx
  cases ry
  obtain ⟨mA, J, _⟩ := ins_get I.hok ha
  obtain ⟨od, J, _⟩ := J.look
  obtain ⟨its, r, hT, _⟩ := I.tuple hb'
  have hT : s.heap.IsTuple b its.toArray := hT
  obtain ⟨oT, hoT, hcT, _⟩ := id hT
  have LT : PySem.W.Looks (model X.prog X.w) s.heap (typeOf (.ref b)) (.type "tuple") := fun A Q E s k q => wpAny_typeOf_ref (k _ _ hoT) (by rw [hcT]; exact q)
  obtain ⟨m, hF⟩ := I.fr
  show wpAny (model X.prog X.w) X.A (richCompare .Eq (.ref a) (.ref b)) (EP X pins σ Q) X.xe s
  have hn : PySem.W.notFirst X.K (c.cls x) (.type "tuple") = true := by
    unfold PySem.W.notFirst
    rw [IF.si "tuple" (by decide)]
    simp
  refine PySem.W.cmp_K (op := .Eq) (tb := .type "tuple") hr.units0 hF I.ok.mod.kin J LT hn hM.at_ hM.fn ?_
  have r2 : Vals [V.ref a, V.ref b] [Value.ref a, Value.ref b] := .cons rfl (.cons rfl .nil)
  refine thn (run_fn (Q := fun z H' => ∃ k, z = .bl k ∧ Q (.bl k) H') (E := E0) (dvs := []) F hr hb .nil pass0 I r2 (by simpa using q)) fun w s' hw => ?_
  obtain ⟨zv, H', I', rz, hq⟩ := hw
  obtain ⟨kk, ez, q'⟩ := hq
  subst ez
  have rz2 : w = Value.bool kk := rz
  subst rz2
  exact ⟨.bl kk, H', I', rfl, q'⟩
end
section
variable {K : PySem.W.Frag} {c : CEnv} {x f : Str} {gs : List Str} {H : Hp} {Q : VK} {p dx : Addr} {fs : List (Str × V)} {v : V} {σ : L2.St} {t : TA} {ta : TE} {sp : Sp} {m : Str}
theorem z_fld (ok : ClsOk K c x gs) (h : H p = some (.ins (c.cls x) dx fs)) (l : fs.lookup f = some v) (n : gs.contains f = true) (k : Q v H) : zFld K f (.ref p) H Q := ⟨p, _, dx, fs, v, rfl, h, ok.cl, ok.na f n, l, k⟩
theorem z_set {N : Hp → Prop} {y : V} (ok : ClsOk K c x gs) (h : H p = some (.ins (c.cls x) dx fs)) (n : gs.contains f = true) (l : fs.length < 1000) (k : N (upd H p (.ins (c.cls x) dx (putF f y fs)))) : zSet K f y (.ref p) H N := ⟨p, _, dx, fs, rfl, h, ok.cl, ok.na f n, l, k⟩
theorem z_mk (k : t σ H fun vs H1 => ClsOk K c x gs → ∀ p dx, H1 p = none → H1 dx = none → dx ≠ p → sp (.ref p :: vs) (upd (upd H1 dx (.own p)) p (.ins (c.cls x) dx [])) (fun v H2 => v = .non ∧ Q (.ref p) H2) E0) : tMk K c x gs sp t σ H Q := k
theorem z_mt (k : ta σ H fun v H1 => ∃ a dx fs, v = .ref a ∧ H1 a = some (.ins (c.cls x) dx fs) ∧ fs.lookup m = none ∧ t σ H1 fun vs H2 => sp (v :: vs) H2 Q E0) : tMt c x m sp ta t σ H Q := k
theorem z_pr (k : ta σ H fun v H1 => ∃ a dx fs, v = .ref a ∧ H1 a = some (.ins (c.cls x) dx fs) ∧ sp [.ref a] H1 Q E0) : tPr c x sp ta σ H Q := k
theorem z_clsv (k : IsF K c x → Q (.ref (c.cls x)) H) : tCls K c x σ H Q := k
theorem z_isIns {y : Str} (i : IsF K c y) (ok : ClsOk K c x gs) (h : H p = some (.ins (c.cls x) dx fs)) (k : Q (.bl (SUB x y)) H) : uIsi K [.ref p, .ref (c.cls y)] H Q :=
  z_isi (ClsV.own _) (TyX.base (TyOf.ins h ok.cl ok.ha ok.hn ok.htk ok.hm)) (ok.sub y i.has) k
end
theorem na_of {P : Str → Prop} {gs : List Str} (h : ∀ f ∈ gs, P f) : ∀ f, gs.contains f = true → P f := fun f hf => h f (by simpa using hf)
theorem ki_of {K : PySem.W.Frag} {C : Addr} (h : ∀ n ∈ ["int", "bool", "str", "NoneType", "tuple", "list", "dict"], PySem.W.kitOne K (.type n) (.ref C) = some false) : ∀ n, ["int", "bool", "str", "NoneType", "tuple", "list", "dict"].contains n = true → PySem.W.kitOne K (.type n) (.ref C) = some false := fun n hn => h n (by simpa using hn)
theorem si_of {K : PySem.W.Frag} {C : Addr} (h : ∀ n ∈ ["int", "bool", "str", "NoneType", "tuple", "list", "dict"], PySem.W.subIn K (.type n) (.ref C) = some false) : ∀ n, ["int", "bool", "str", "NoneType", "tuple", "list", "dict"].contains n = true → PySem.W.subIn K (.type n) (.ref C) = some false := fun n hn => h n (by simpa using hn)
theorem kit_own {K : PySem.W.Frag} {t : Value} {C : Addr} {b : Bool} (ic : PySem.W.isClsIn K C = true) (ty : PySem.W.typeIn K (.ref C) = some (.type "type")) (ss : PySem.W.subIn K (.ref C) (.ref C) = some true) (sb : PySem.W.subIn K t (.ref C) = some b) : PySem.W.kitOne K t (.ref C) = some b := by
  unfold PySem.W.kitOne
  split
  · rename_i h
    have e : t = .ref C := eq_of_beq h
    subst e
    rw [ss] at sb; exact sb
  · unfold PySem.W.kitCls
    have h1 : (PySem.W.clsIn K C).isSome = true := ic
    dsimp only
    rw [h1, ty]
    exact sb

local macro_rules | `(tactic| walk_at "z") => `(tactic| with_reducible first
  | ((show zFld _ _ _ _ _); refine z_fld (by assumption) (by walk_at "lk") (by with_unfolding_all rfl) (by with_unfolding_all rfl) ?_)
  | ((show zSet _ _ _ _ _ _); refine z_set (by assumption) (by walk_at "lk") (by with_unfolding_all rfl) (by with_unfolding_all exact of_decide_eq_true rfl) ?_)
  | (refine z_mk ?_) | (refine z_mt ?_) | (refine z_pr ?_) | (refine z_clsv ?_; intro _))

/-! ### the draws of a law -/
-- _law_row(_law_script, _law_k): slots 0:_law_script 1:_law_k 2:_law_cell 3:_law_a 4:_law_b 5:_law_c
def T_law_row (K : PySem.W.Frag) : TS :=
    (tSeq (tAsg (tC (.int 0)) (gName 2))
    (tCut (tIfS (tTest (tOp (uLt K) (tVar 1) (tCB (uLen K) (tCons (tVar 0) tNil)))) (tAsg (tOp (uIx K) (tVar 0) (tVar 1)) (gName 2)) tNext)
    (tCut (tIfS (tTest (tOp (uLt K) (tVar 2) (tC (.int 0)))) (tAsg (tOp uSub (tOp uMul (tUn uNeg (tC (.int 2))) (tVar 2)) (tC (.int 1))) (gName 2)) tNext)
    (tCut (tIfS (tTest (tOp (uLt K) (tVar 2) (tOp uPow (tC (.int 10)) (tC (.int 9))))) (tSeq (tAsg (tOp uMod (tCB uInt (tCons (tOp (uAdd K) (tOp (uAdd K) (tOp uMul (tVar 2) (tC (.int 48271))) (tOp uMul (tVar 1) (tC (.int 69621)))) (tC (.int 11))) tNil)) (tC (.int 2147483647))) (gName 3))
    (tSeq (tAsg (tOp uMod (tCB uInt (tCons (tOp (uAdd K) (tOp (uAdd K) (tOp (uAdd K) (tOp uMul (tVar 3) (tC (.int 16807))) (tOp uMul (tVar 2) (tC (.int 7)))) (tVar 1)) (tC (.int 5))) tNil)) (tC (.int 2147483629))) (gName 4))
    (tSeq (tAsg (tOp uMod (tCB uInt (tCons (tOp (uAdd K) (tOp (uAdd K) (tOp uMul (tVar 4) (tC (.int 39373))) (tOp uMul (tVar 3) (tVar 4))) (tC (.int 3))) tNil)) (tC (.int 2147483587))) (gName 5))
    (tAsg (tOp (uAdd K) (tOp (uAdd K) (tVar 3) (tOp uMul (tVar 4) (tC (.int 2147483647)))) (tOp uMul (tVar 5) (tOp uPow (tC (.int 2147483647)) (tC (.int 2))))) (gName 2))))) tNext)
    (tRet (tVar 2))))))
def sp_law_row (K : PySem.W.Frag) : Sp := fun vs H Q _ => ∃ (L : Addr) (ns : List Int) (k : Int), vs = [.ref L, .int k] ∧ SqL K H L (ns.map V.int) ∧ 0 ≤ k ∧ ∀ c : Int, 0 ≤ c → Q (.int c) H
theorem r_law_row {K : PySem.W.Frag} {L : Addr} {ns : List Int} {k : Int} {H : Hp} {D : Ends} (hL : SqL K H L (ns.map V.int)) (hk : 0 ≤ k) (q : ∀ c : Int, 0 ≤ c → D.rt (.int c) H) :
    T_law_row K D [some (.ref L), some (.int k), none, none, none, none] H := by
  unfold T_law_row
  walk_at "zz"
  refine z_cut (fun σ H' => H = H' ∧ ∃ c : Int, σ = [some (.ref L), some (.int k), some (.int c), none, none, none]) ?_ ?_
  · walk_at "zz"
    refine z_itD (fun c => ?_) (fun c => ?_)
    · walk_at "zz"
      refine z_ix (.inl hL) (at_int hk (by simpa using c)) ?_
      walk_at "zz"
      exact ⟨rfl, _, rfl⟩
    · walk_at "zz"
      exact ⟨rfl, _, rfl⟩
  rintro σ H' ⟨rfl, c, rfl⟩
  refine z_cut (fun σ H' => H = H' ∧ ∃ c : Int, 0 ≤ c ∧ σ = [some (.ref L), some (.int k), some (.int c), none, none, none]) ?_ ?_
  · walk_at "zz"
    refine z_itD (fun c => ?_) (fun c => ?_)
    · walk_at "zz"
      exact ⟨rfl, _, by omega, rfl⟩
    · walk_at "zz"
      exact ⟨rfl, _, by omega, rfl⟩
  rintro σ H' ⟨rfl, c, hc, rfl⟩
  refine z_cut (fun σ H' => H = H' ∧ ∃ (c : Int) (x y z : Option V), 0 ≤ c ∧ σ = [some (.ref L), some (.int k), some (.int c), x, y, z]) ?_ ?_
  · walk_at "zz"
    refine z_itD (fun h => ?_) (fun h => ?_)
    · walk_at "zz"
      refine ⟨rfl, _, _, _, _, ?_, rfl⟩
      omega
    · walk_at "zz"
      exact ⟨rfl, _, _, _, _, hc, rfl⟩
  rintro σ H' ⟨rfl, c, x, y, z, hc, rfl⟩
  walk_at "zz"
  exact q c hc
-- _law_next(_law_state, _law_many): slots 0:_law_state 1:_law_many 2:_law_drawn
def T_law_next (K : PySem.W.Frag) : TS :=
    (tCut (tIfS (tTest (tOp (uLt K) (tOp (uIx K) (tVar 0) (tC (.int 2))) (tVar 1))) (tSeq (tAsg (tCal (sp_law_row K) (tCons (tOp (uIx K) (tVar 0) (tC (.int 0))) (tCons (tOp (uIx K) (tVar 0) (tC (.int 1))) tNil))) (gSub (tVar 0) (tC (.int 2)) rSetL))
    (tAsg (tOp (uAdd K) (tOp (uIx K) (tVar 0) (tC (.int 1))) (tC (.int 1))) (gSub (tVar 0) (tC (.int 1)) rSetL))) tNext)
    (tSeq (tAsg (tOp uMod (tCB uInt (tCons (tOp (uIx K) (tVar 0) (tC (.int 2))) tNil)) (tVar 1)) (gName 2))
    (tSeq (tAsg (tOp uDiv (tOp (uIx K) (tVar 0) (tC (.int 2))) (tVar 1)) (gSub (tVar 0) (tC (.int 2)) rSetL))
    (tRet (tVar 2)))))
/-- the state of the draws stands at st, the script's copy at L -/
structure Draw (H : Hp) (st L : Addr) : Prop where
  ex : ∃ (ns : List Int) (k a : Int), H st = some (.lst [.ref L, .int k, .int a]) ∧ H L = some (.lst (ns.map V.int)) ∧ L ≠ st ∧ 0 ≤ k ∧ 0 ≤ a
theorem Draw.ne {H : Hp} {st L p : Addr} (h : H p = none) (d : Draw H st L) : p ≠ st := by
  obtain ⟨_, _, _, e, _⟩ := d.ex
  exact (ne_of_none e h).symm
theorem Draw.neL {H : Hp} {st L p : Addr} (h : H p = none) (d : Draw H st L) : p ≠ L := by
  obtain ⟨_, _, _, _, e, _⟩ := d.ex
  exact (ne_of_none e h).symm
theorem Draw.new {H : Hp} {st L p : Addr} {o : HO} (h : H p = none) (d : Draw H st L) : Draw (upd H p o) st L := by
  obtain ⟨ns, k, a, e, s, n, hk, ha⟩ := d.ex
  exact ⟨ns, k, a, lk_ne (ne_of_none e h) e, lk_ne (ne_of_none s h) s, n, hk, ha⟩
theorem Draw.same {H H' : Hp} {st L : Addr} (x : Same H H') (d : Draw H st L) : Draw H' st L := by
  obtain ⟨ns, k, a, e, s, n, hk, ha⟩ := d.ex
  exact ⟨ns, k, a, x _ _ e, x _ _ s, n, hk, ha⟩
theorem Draw.put {H : Hp} {st L p : Addr} {o : HO} (h1 : p ≠ st) (h2 : p ≠ L) (d : Draw H st L) : Draw (upd H p o) st L := by
  obtain ⟨ns, k, a, e, s, n, hk, ha⟩ := d.ex
  exact ⟨ns, k, a, lk_ne h1.symm e, lk_ne h2.symm s, n, hk, ha⟩
theorem Draw.back {H H' : Hp} {st L p : Addr} (d : Draw H' st L) (x : ExD H H') (h : H' p = none) (hs : ∀ L k a, H p = some (.lst [.ref L, .int k, .int a]) → p = st) : H p = none := by
  cases e : H p with
  | none => rfl
  | some o =>
    by_cases n : NotSt o
    · have := x p o n e
      rw [h] at this; cases this
    · exfalso
      apply n
      rintro L k a rfl
      exact Draw.ne h d (hs L k a e)
def sp_law_next (K : PySem.W.Frag) : Sp := fun vs H Q _ => ∃ (st L : Addr) (m : Int), vs = [.ref st, .int m] ∧ Draw H st L ∧ 0 < m ∧ m < 1000000000000000000 ∧ ∀ (r : Int) (H' : Hp), 0 ≤ r → r < m → Draw H' st L → ExD H H' → (∀ a, a ≠ st → H' a = H a) → Q (.int r) H'
theorem law_row_c {K : PySem.W.Frag} {L : Addr} {k : Int} {H : Hp} {Q : VK} {E : XK} {ns : List Int} (hL : SqL K H L (ns.map V.int)) (hk : 0 ≤ k) (q : ∀ c : Int, 0 ≤ c → Q (.int c) H) : sp_law_row K [.ref L, .int k] H Q E := ⟨L, ns, k, rfl, hL, hk, q⟩
theorem r_law_next {K : PySem.W.Frag} {st L : Addr} {m : Int} {H : Hp} {D : Ends} (d : Draw H st L) (h0 : 0 < m) (h1 : m < 1000000000000000000) (q : ∀ (r : Int) (H' : Hp), 0 ≤ r → r < m → Draw H' st L → ExD H H' → (∀ a, a ≠ st → H' a = H a) → D.rt (.int r) H') :
    T_law_next K D [some (.ref st), some (.int m), none] H := by
  obtain ⟨ns, k, a, e, sL, n, hk, ha⟩ := d.ex
  have s : SqL K H L (ns.map V.int) := SqL.of sL
  unfold T_law_next
  refine z_cut (fun σ H' => ∃ k a : Int, H' = upd H st (.lst [.ref L, .int k, .int a]) ∧ 0 ≤ k ∧ 0 ≤ a ∧ σ = [some (.ref st), some (.int m), none]) ?_ ?_
  · walk_at "zz"
    refine z_itD (fun h => ?_) (fun h => ?_)
    · walk_at "zz"
      refine law_row_c s hk fun c hc => ?_
      walk_at "zz"
      refine ⟨k + 1, c, ?_, by omega, hc, rfl⟩
      simp only [upd_upd]; rfl
    · walk_at "zz"
      exact ⟨k, a, (upd_self e).symm, hk, ha, rfl⟩
  rintro σ H' ⟨k, a, rfl, hk, ha, rfl⟩
  walk_at "zz"
  refine q _ _ (Int.emod_nonneg _ (by omega)) (Int.emod_lt_of_pos _ h0) ⟨ns, k, a / m, upd_same, ?_, n, hk, Int.ediv_nonneg ha (by omega)⟩ ?_ ?_
  · exact lk_ne n (lk_ne n sL)
  · exact ExD.st e (ExD.st e (ExD.refl H))
  · intro b hb; rw [upd_ne hb, upd_ne hb]
theorem law_next_c {K : PySem.W.Frag} {st L : Addr} {m : Int} {H : Hp} {Q : VK} {E : XK} (d : Draw H st L) (h0 : 0 < m) (h1 : m < 1000000000000000000) (q : ∀ (r : Int) (H' : Hp), 0 ≤ r → r < m → Draw H' st L → ExD H H' → Q (.int r) H') : sp_law_next K [.ref st, .int m] H Q E :=
  ⟨st, L, m, rfl, d, h0, h1, fun r H' a b c e _ => q r H' a b c e⟩
-- _law_is_integer(_law_actual): slots 0:_law_actual
def T_law_is_integer (K : PySem.W.Frag) : TS :=
    (tRet (tAndV (tCB (uIsi K) (tCons (tVar 0) (tCons (tC (.ty "int")) tNil))) (tNotV (tCB (uIsi K) (tCons (tVar 0) (tCons (tC (.ty "bool")) tNil))))))
def sp_law_is_integer (K : PySem.W.Frag) : Sp := fun vs H Q _ => ∃ i : Int, vs = [.int i] ∧ Q (.bl true) H
theorem r_law_is_integer {K : PySem.W.Frag} {i : Int} {H : Hp} {D : Ends} (q : D.rt (.bl true) H) : T_law_is_integer K D [some (.int i)] H := by
  unfold T_law_is_integer
  walk_at "zz"
  exact q
theorem Draw.start {H : Hp} {l p : Addr} {ns : List Int} (h1 : H l = none) (h2 : upd H l (.lst (ns.map V.int)) p = none) : Draw (upd (upd H l (.lst (ns.map V.int))) p (.lst [.ref l, .int 0, .int 0])) p l := by
  have ne : l ≠ p := ne_of_none (H := upd H l (.lst (ns.map V.int))) upd_same h2
  exact ⟨ns, 0, 0, upd_same, lk_ne ne upd_same, ne, by decide, by decide⟩
def sp_law (K : PySem.W.Frag) : Sp := fun vs H Q _ => ∃ (a : Addr) (ns : List Int), vs = [.ref a] ∧ SqL K H a (ns.map V.int) ∧ ns.length ≤ 63 ∧ ∀ H', Q (.bl true) H'
abbrev N_law_row : List Str := ["_law_script", "_law_k", "_law_cell", "_law_a", "_law_b", "_law_c"]
theorem w_law_row {K : PySem.W.Frag} : Wd (T_law_row K) N_law_row 2 (sp_law_row K) := fun vs H Q E h => by
  obtain ⟨L, ns, k, rfl, h1, h2, q⟩ := h
  exact ⟨rfl, r_law_row h1 h2 q⟩
abbrev N_law_next : List Str := ["_law_state", "_law_many", "_law_drawn"]
theorem w_law_next {K : PySem.W.Frag} : Wd (T_law_next K) N_law_next 2 (sp_law_next K) := fun vs H Q E h => by
  obtain ⟨st, L, m, rfl, d, h0, h1, q⟩ := h
  exact ⟨rfl, r_law_next d h0 h1 q⟩
abbrev N_law_is_integer : List Str := ["_law_actual"]
theorem w_law_is_integer {K : PySem.W.Frag} : Wd (T_law_is_integer K) N_law_is_integer 1 (sp_law_is_integer K) := fun vs H Q E h => by
  obtain ⟨i, rfl, q⟩ := h
  exact ⟨rfl, r_law_is_integer q⟩

local macro_rules | `(tactic| walk_at "dr") => `(tactic| with_reducible first | assumption | ((show Draw (upd _ _ _) _ _); first | exact Draw.new (by assumption) (by walk_at "dr") | exact Draw.put (by walk_at "ne") (by walk_at "ne") (by walk_at "dr")) | exact Draw.same (by assumption) (by walk_at "dr"))
local macro_rules | `(tactic| walk_at "nx") => `(tactic| (refine law_next_c (by walk_at "dr") (by first | decide | omega) (by first | decide | omega) ?_))

/-! ### lists place by place -/
inductive All2 {α β : Type} (R : α → β → Prop) : List α → List β → Prop
  | nil : All2 R [] []
  | cons {a : α} {b : β} {as : List α} {bs : List β} (h : R a b) (t : All2 R as bs) : All2 R (a :: as) (b :: bs)
section
variable {α β : Type} {R S : α → β → Prop} {as : List α} {bs : List β} {a : α} {b : β}
theorem All2.imp (f : ∀ a b, R a b → S a b) (h : All2 R as bs) : All2 S as bs := by
  induction h with
  | nil => exact .nil
  | cons h t ih => exact .cons (f _ _ h) ih
theorem All2.app (h : All2 R as bs) (e : R a b) : All2 R (as ++ [a]) (bs ++ [b]) := by
  induction h with
  | nil => exact .cons e .nil
  | cons h t ih => exact .cons h ih
theorem All2.len (h : All2 R as bs) : as.length = bs.length := by
  induction h with
  | nil => rfl
  | cons h t ih => simp [ih]
theorem All2.get (h : All2 R as bs) : ∀ {i : Nat} (hi : i < as.length) (hj : i < bs.length), R as[i] bs[i] := by
  induction h with
  | nil => intro i hi; cases hi
  | cons h t ih => intro i hi hj; cases i with
    | zero => exact h
    | succ i => exact ih (by simpa using hi) (by simpa using hj)
theorem All2.of {n : Nat} (ha : as.length = n) (hb : bs.length = n) (f : ∀ i (hi : i < as.length) (hj : i < bs.length), R as[i] bs[i]) : All2 R as bs := by
  induction as generalizing bs n with
  | nil => cases bs with
    | nil => exact .nil
    | cons b t => simp at ha hb; omega
  | cons a t ih => cases bs with
    | nil => simp at ha hb; omega
    | cons b u => exact .cons (f 0 (by simp) (by simp)) (ih (n := n - 1) (by simp at ha; omega) (by simp at hb; omega) fun i hi hj => f (i + 1) (by simpa using hi) (by simpa using hj))
end
theorem at_ref {ps : List Addr} {i : Int} (h0 : 0 ≤ i) (h1 : i < ps.length) : atI (ps.map V.ref) i = some (.ref (ps.getD i.toNat 0)) := by
  unfold atI
  rw [ix_at h0 (by simpa using h1)]
  have : i.toNat < ps.length := by omega
  simp [List.getD, this]
theorem map_ref {ps : List Addr} {i : Nat} {x : V} (h : (ps.map V.ref)[i]? = some x) : i < ps.length ∧ x = .ref (ps.getD i 0) := by
  rw [List.getElem?_map] at h
  cases e : ps[i]? with
  | none => rw [e] at h; cases h
  | some y =>
    rw [e] at h
    obtain ⟨l, _⟩ := List.getElem?_eq_some_iff.mp e
    exact ⟨l, by rw [List.getD_eq_getElem?_getD, e]; exact (Option.some.inj h).symm⟩
theorem ref_app {ps : List Addr} {q : Addr} : ps.map V.ref ++ [V.ref q] = (ps ++ [q]).map V.ref := by simp
section
variable {α β : Type} {R : α → β → Prop} {as : List α} {bs : List β} {a : α} {b : β}
theorem All2.atD (h : All2 R as bs) (d : α) (e : β) {i : Nat} (hi : i < bs.length) : R (as.getD i d) (bs.getD i e) := by
  have hj : i < as.length := by rw [All2.len h]; exact hi
  have q := All2.get h hj hi
  rw [List.getD_eq_getElem?_getD, List.getD_eq_getElem?_getD, List.getElem?_eq_getElem hi, List.getElem?_eq_getElem hj]
  exact q
theorem All2.take (h : All2 R as bs) : ∀ k : Nat, All2 R (as.take k) (bs.take k) := by
  induction h with
  | nil => intro k; rw [List.take_nil, List.take_nil]; exact .nil
  | cons h t ih => intro k; cases k with
    | zero => exact .nil
    | succ k => exact .cons h (ih k)
theorem All2.drop (h : All2 R as bs) : ∀ k : Nat, All2 R (as.drop k) (bs.drop k) := by
  induction h with
  | nil => intro k; rw [List.drop_nil, List.drop_nil]; exact .nil
  | cons h t ih => intro k; cases k with
    | zero => exact .cons h t
    | succ k => exact ih k
theorem All2.mem (h : All2 R as bs) (ha : a ∈ as) : ∃ b ∈ bs, R a b := by
  induction h with
  | nil => cases ha
  | cons h t ih =>
    rcases List.mem_cons.mp ha with rfl | ha
    · exact ⟨_, List.mem_cons_self .., h⟩
    · obtain ⟨b, hb, r⟩ := ih ha; exact ⟨b, List.mem_cons_of_mem _ hb, r⟩
end
theorem Same.put {H H' : Hp} {p : Addr} {o : HO} (h : H p = none) (x : Same H H') : Same H (upd H' p o) := fun a u e => lk_ne (ne_of_none e h) (x a u e)
theorem fresh_same {H H' : Hp} {p : Addr} (s : Same H H') (h : H' p = none) : H p = none := by
  cases e : H p with
  | none => rfl
  | some o => rw [s _ _ e] at h; cases h
theorem take_dS {α : Type} {l : List α} {i : Nat} (d : α) (h : i < l.length) : l.take (i + 1) = l.take i ++ [l.getD i d] := by
  rw [List.take_succ, List.getD_eq_getElem?_getD, List.getElem?_eq_getElem h]; rfl
theorem getD_mem' {α : Type} {l : List α} {i : Nat} (d : α) (h : i < l.length) : l.getD i d ∈ l := by
  rw [List.getD_eq_getElem?_getD, List.getElem?_eq_getElem h]; exact List.getElem_mem h

/-! enumerate over a list or a tuple -/
section
open PySem.AutoSeq1 (wpAny_loadPart')
abbrev itT (l : Addr) : Obj := { cls := .type "tuple_iterator", data := .fields #[.ref l, .int 0 0] }
abbrev enT (h : Heap) : Obj := { cls := .type "enumerate", data := .fields #[.none, .bool false, .ref h.objs.size, rawInt 0, .none, .none] }
theorem new_enumT (l : Addr) (us : Array Value) (n : Nat) (dd : Option Addr) (ss : Array (Option Value)) :
    Meets (Builtin.«enumerate.__new__» ⟨[.type "enumerate", .ref l], []⟩) (fun _ R s => s.heap.get? l = some { cls := .type "tuple", dict := dd, data := .seq us n, slots := ss } ∧
      R (.ok (.ret (.ref (s.heap.push (itT l)).objs.size))) { s with heap := (s.heap.push (itT l)).push (enT s.heap) }) :=
  .of_wp fun prog w A R s h => by
    obtain ⟨hp, gg, dr, tk, os⟩ := s
    obtain ⟨hl, q⟩ := h
    have se := sub_enumerate
    have isT : Heap.IsTuple (Shared.heap ⟨hp, gg, dr, tk, os⟩) l us := ⟨_, hl, rfl, n, rfl⟩
    wp_walk using wpAny_loadPart' hl
    refine wpAny_stack_any fun st => wpAny_pure ?_
    split
    · rename_i cc _ _ _ _ _
      cases (cc == Value.type "enumerate") <;> (wp_walk using wpAny_loadPart' hl, wpAny_pyIter_tuple isT; exact ⟨_, rfl, q⟩)
    · wp_walk using wpAny_loadPart' hl, wpAny_pyIter_tuple isT
      exact ⟨_, rfl, q⟩
theorem call_enumT {prog : Program} {w : World} {A : Around} {E : Value → Shared → Prop} {s : Shared} {l : Addr} {us : Array Value} {Q : Value → Shared → Prop} (hT : s.heap.IsTuple l us)
    (h : ∀ h', IsEnum h' (s.heap.objs.size + 1) s.heap.objs.size 0 .none → h'.IsTupleIter s.heap.objs.size l 0 → (∀ b o, s.heap.get? b = some o → h'.get? b = some o) → Q (.ref (s.heap.objs.size + 1)) { s with heap := h' }) :
    wpAny (model prog w) A (call (.type "enumerate") [.ref l]) Q E s := by
  obtain ⟨⟨cc, dd, dt, ss⟩, hl, h1, n, h2⟩ := hT
  simp only at h1 h2
  subst h1 h2
  have zz : (s.heap.push (itT l)).objs.size = s.heap.objs.size + 1 := Heap.size_push ..
  have en : IsEnum ((s.heap.push (itT l)).push (enT s.heap)) (s.heap.objs.size + 1) s.heap.objs.size 0 .none := by
    have g := Heap.get?_push_size (s.heap.push (itT l)) (o := enT s.heap) rfl
    rw [zz] at g; exact g
  refine callType_new F.called_enumerate (by decide) (F.typeCall_enumerate_1 _) (F.newCall_enumerate_1 _) (fun obj => F.args_object_init_2 obj _) F.entry_enumerate_new (new_enumT l us n dd ss) ⟨hl, ?_⟩
  show _ ∧ _
  rw [zz]
  exact ⟨⟨_, en, rfl⟩, h _ en ⟨_, Heap.get?_push_of_some _ (Heap.get?_push_size _ rfl), rfl, rfl⟩ fun b o x => Heap.get?_push_of_some _ (Heap.get?_push_of_some _ x)⟩
end
/-- the tuple at a as it stands at each turn, place and item in a new pair -/
def IteT (K : PySem.W.Frag) (a : Addr) : It :=
  ⟨fun i H => ∃ (xs : List V) (x : V), SqT K H a xs ∧ xs[i]? = some x, fun i H v H' => ∃ T x, v = .ref T ∧ H T = none ∧ H' = upd H T (.tup [.int (i : Nat), x]) ∧ ∀ xs, SqT K H a xs → xs[i]? = some x, fun i H => ∃ xs : List V, SqT K H a xs ∧ xs.length ≤ i⟩
theorem turn_enumT {P : Program} {w : World} {K : PySem.W.Frag} {elts : List Expr} {kk : Nat} {tpos : Pos} (a e it : Addr) :
    Turn P w K (.Tuple elts kk tpos) (IteT K a) [e, it] e (fun i h => (∃ old, IsEnum h e it ((i : Nat) : Int) old) ∧ h.IsTupleIter it a i ∧ e ≠ it) where
  mem := by simp
  obj := fun i h st b hb => by
    obtain ⟨⟨old, en⟩, ⟨o, ho, _, dt⟩, _⟩ := st
    rcases (show b = e ∨ b = it by simpa using hb) with z | z
    · rw [z]; exact ⟨_, en, fun v q => nomatch q⟩
    · rw [z]; exact ⟨o, ho, fun v q => by rw [dt] at q; cases q⟩
  keep := fun i h h' st k => let ⟨⟨old, en⟩, ⟨o, ho, hi⟩, ne⟩ := st; ⟨⟨old, k e (by simp) _ en⟩, ⟨o, k it (by simp) _ ho, hi⟩, ne⟩
  item := by
    intro X hP hw hK hc i pins s σ H E I hf st hg
    subst hP hw hK
    obtain ⟨⟨old, en⟩, hit, ne⟩ := st
    obtain ⟨xs, x, hq, hx⟩ := hg
    obtain ⟨us, rv, p, _⟩ := I.tuple hq
    obtain ⟨u, hu, ru⟩ := rv.get hx
    have p2 : s.heap.IsTuple a us.toArray := p
    have lt1 : e < s.heap.objs.size := Heap.lt_size en
    have lt2 : it < s.heap.objs.size := by obtain ⟨_, q, _⟩ := hit; exact Heap.lt_size q
    have ne2 : a ≠ it := fun z => by
      obtain ⟨o1, g1, c1, _⟩ := hit
      obtain ⟨o2, g2, c2, _⟩ := id p2
      rw [z, g1] at g2; cases g2; rw [c1] at c2; exact absurd c2 (by decide)
    have ne3 : e ≠ a := fun z => by
      obtain ⟨o2, g2, c2, _⟩ := id p2
      rw [← z, show s.heap.get? e = _ from en] at g2; cases g2; exact absurd (show Value.type "enumerate" = Value.type "tuple" from c2) (by decide)
    have hlt : i < us.toArray.size := by
      obtain ⟨l, _⟩ := List.getElem?_eq_some_iff.mp hu
      simpa using l
    refine wpAny_pyNext_enum_itemD (Draws.tuple (A := X.A.in1) (I.ok.hd hc) it a ne2 us.toArray) en ⟨hit, p2⟩ hlt ne (by simp [ne, ne3]) fun y h' tk hy out st2 hT _ hk => ?_
    have ey : y = u := by
      have z : us.toArray[i]? = some y := hy
      rw [show us.toArray[i]? = us[i]? by simp] at z
      rw [hu] at z; exact (Option.some.inj z).symm
    subst ey
    refine ⟨_, rfl, wpAny_letOwnedTupleGo_enum (s := { s with heap := h', toks := tk + 1 }) out fun h'' en2 sb => ?_⟩
    have hT2 : h''.get? s.heap.objs.size = some { cls := .type "tuple", data := .seq #[.int i tk, y] } := (sb.2 _ (Nat.ne_of_gt lt1)).trans hT
    have nw : ObjOk X.prog X.w (upd H s.heap.objs.size (.tup [.int (i : Nat), x])) h'' s.heap.objs.size (.tup [.int (i : Nat), x]) :=
      ⟨by show 2 ≤ sizeLine; decide, [.int i tk, y], .cons ⟨_, rfl⟩ (.cons ru .nil), ⟨_, hT2, rfl, _, rfl⟩⟩
    have J : Inv X pins σ (upd H s.heap.objs.size (.tup [.int (i : Nat), x])) { s with heap := h'', toks := tk + 1 } :=
      I.turnedNew (ch := [e, it]) (fun b ob hb q => (sb.2 b (fun z => hb (by simp [z]))).trans (hk b ob (fun z => hb (by simp [z])) (fun z => hb (by simp [z])) q)) hf (Nat.le_refl _) nw
    have hit2 : h''.IsTupleIter it a (i + 1) := by
      obtain ⟨o, g, r⟩ := st2.1
      exact ⟨o, (sb.2 it (Ne.symm ne)).trans g, r⟩
    refine ⟨.ref s.heap.objs.size, _, J, rfl, ⟨_, x, rfl, I.hok.fresh (Nat.le_refl _), rfl, fun ys hy => by rw [I.tuple_inj hy hq]; exact hx⟩, ⟨⟨y, ?_⟩, hit2, ne⟩, fun b hb => ?_⟩
    · rw [show ((i + 1 : Nat) : Int) = (i : Int) + 1 by omega]; exact en2
    · have lt : b < s.heap.objs.size := by
        rcases (show b = e ∨ b = it by simpa using hb) with z | z
        · rw [z]; exact lt1
        · rw [z]; exact lt2
      rw [upd_ne (Nat.ne_of_lt lt)]
      exact (hf b hb).1
  done := by
    intro X hP hw hK hc i pins s σ H E I hf st hg
    subst hP hw hK
    obtain ⟨⟨old, en⟩, hit, ne⟩ := st
    obtain ⟨xs, hq, hx⟩ := hg
    obtain ⟨us, rv, p, _⟩ := I.tuple hq
    have p2 : s.heap.IsTuple a us.toArray := p
    have len := rv.length
    obtain ⟨f0, f1, f2, f3, f4, f5⟩ := hf it (by simp)
    have hT : s.TypeIs (.ref e) "enumerate" := ⟨_, en, rfl⟩
    unfold pyNext
    refine wpAny_bind (wpAny_attempt (wpAny_callSpecial?_slot (name := Str.ofString "__next__") hT F.slot_enumerate_next (wpAny_call_entry F.slot_enumerate_next hT F.entry_enumerate_next ?_ (F.args_enumerate_next_1 _))))
    show wpAny _ _ (field (.ref e) 2 >>= _) _ _ _
    refine wpAny_bind (wpAny_field en rfl (x := .ref it) rfl ?_)
    refine wpAny_bind (wpAny_nextOf_tuple_end (I.ok.hd hc) hit p2 (by simp; omega) fun h' x eb hx' => ?_)
    obtain ⟨o, ho, co⟩ := hx'
    refine wpAny_bind (wpAny_isInstance (T := "StopIteration") (b := true) ⟨o, ho, co⟩ isSubtype_stop ?_)
    exact wpAny_pure ⟨rfl, I.turned (t' := s.toks) (fun b o hb q => eb b o hb q) f0 f1 f3 f4 f5⟩
  self := fun A i s Q E st h => let ⟨⟨_, en⟩, _⟩ := st; wpAny_pyIter_enum en h
def iEnumA (K : PySem.W.Frag) (ta : TA) : TI := fun σ H R => ta σ H fun vs H1 => ∃ a xs, vs = [.ref a] ∧ ((SqL K H1 a xs ∧ R (Ite K a) H1) ∨ (SqT K H1 a xs ∧ R (IteT K a) H1))
theorem pi_enumA {X : Cx} {e : Expr} {ta : TA} {p pos tpos : Pos} {elts : List Expr} {kk : Nat} (hg : Gl X "enumerate") (hm : X.mg "enumerate" = none) (ha : PA X [e] ta) (hs : starEach [e] X.env = [(false, eval e X.env)] := by rfl) :
    PI X (.Tuple elts kk tpos) (.Call (.Name "enumerate" p) [e] [] pos) (iEnumA X.K ta) := by
  refine ⟨fun pins s σ H R I h => PyProof.Rows.Call_ (ld_blt I hg hm PyProof.Rows.boot_enumerate (PyProof.Rows.callWith_type1 (thn (ha.run pos pins s σ H _ I h) fun us s1 ⟨vs, H1, I1, r1, q1⟩ => ?_) hs rfl))⟩
  obtain ⟨a, xs, ex, q1⟩ := q1
  subst ex
  obtain ⟨u, eu, r⟩ := Vals.one r1
  subst eu
  cases r
  have fr : ∀ b, b ∈ [s1.heap.objs.size + 1, s1.heap.objs.size] → FpOk X pins H1 b := fun b hb => by
    have le : s1.heap.objs.size ≤ b := by
      rcases (show b = s1.heap.objs.size + 1 ∨ b = s1.heap.objs.size by simpa using hb) with z | z <;> omega
    exact I1.fpOk le (I1.hok.fresh le)
  rcases q1 with ⟨hq, q⟩ | ⟨hq, q⟩
  · obtain ⟨us, rv, p, _⟩ := I1.list hq
    refine call_enumerate_list p.isList fun h' en hit _ hk => wpAny_pyIter_enum en ?_
    exact ⟨s1.heap.objs.size + 1, [s1.heap.objs.size + 1, s1.heap.objs.size], _, _, H1, rfl, I1.kept (t' := s1.toks) hk, turn_enum a (s1.heap.objs.size + 1) s1.heap.objs.size, ⟨⟨.none, en⟩, hit, Nat.succ_ne_self _⟩, fr, q⟩
  · obtain ⟨us, rv, p, _⟩ := I1.tuple hq
    refine call_enumT (show s1.heap.IsTuple a us.toArray from p) fun h' en hit hk => wpAny_pyIter_enum en ?_
    exact ⟨s1.heap.objs.size + 1, [s1.heap.objs.size + 1, s1.heap.objs.size], _, _, H1, rfl, I1.kept (t' := s1.toks) hk, turn_enumT a (s1.heap.objs.size + 1) s1.heap.objs.size, ⟨⟨.none, en⟩, hit, Nat.succ_ne_self _⟩, fr, q⟩
/-! the steps -/
def zEnumA (K : PySem.W.Frag) (g : TG) (tb : TS) (D : Ends) (σ : L2.St) (vs : List V) (H1 : Hp) : Prop := ∃ a xs, vs = [.ref a] ∧ ((SqL K H1 a xs ∧ ∃ W : Nat → Nat → L2.St → Hp → Prop, (∃ m, W 0 m σ H1) ∧ ∀ i m σ H, W i m σ H →
  ((Ite K a).stop i H ∧ D.nx σ H) ∨ ((Ite K a).go i H ∧ ∃ N : L2.St → Hp → Prop, (∀ σ' H', N σ' H' → ∃ m', m' < m ∧ W (i + 1) m' σ' H') ∧ ∀ x H', (Ite K a).yld i H x H' → g x σ H' fun σ2 H2 => tb { D with nx := N, ct := N, bk := D.nx } σ2 H2)) ∨
  (SqT K H1 a xs ∧ ∃ W : Nat → Nat → L2.St → Hp → Prop, (∃ m, W 0 m σ H1) ∧ ∀ i m σ H, W i m σ H →
  ((IteT K a).stop i H ∧ D.nx σ H) ∨ ((IteT K a).go i H ∧ ∃ N : L2.St → Hp → Prop, (∀ σ' H', N σ' H' → ∃ m', m' < m ∧ W (i + 1) m' σ' H') ∧ ∀ x H', (IteT K a).yld i H x H' → g x σ H' fun σ2 H2 => tb { D with nx := N, ct := N, bk := D.nx } σ2 H2)))
section
variable {K : PySem.W.Frag} {σ : L2.St} {H : Hp} {D : Ends} {ta : TA} {g : TG} {tb : TS} {a : Addr} {xs : List V}
theorem z_forEA (k : ta σ H fun vs H1 => zEnumA K g tb D σ vs H1) : tFor (iEnumA K ta) g tb D σ H := k
theorem z_enumA {u v : Nat} (h : SqL K H a xs ∨ SqT K H a xs) (Pv : Nat → L2.St → Hp → Prop) (h0 : Pv 0 σ H) (hk : ∀ i σ' H', Pv i σ' H' → Same H H')
    (hs : ∀ i x p σ' H', xs[i]? = some x → Pv i σ' H' → H' p = none → tb { D with nx := Pv (i + 1), ct := Pv (i + 1), bk := D.nx } ((σ'.set u (some (.int (i : Nat)))).set v (some x)) (upd H' p (.tup [.int (i : Nat), x])))
    (hd : ∀ σ' H', Pv xs.length σ' H' → D.nx σ' H') : zEnumA K (gTup K 2 (gCons (gName u) (gCons (gName v) gNil))) tb D σ [.ref a] H := by
  refine ⟨a, xs, rfl, ?_⟩
  rcases h with h | h
  · refine .inl ⟨h, fun i m σ H => m = xs.length - i ∧ i ≤ xs.length ∧ Pv i σ H, ⟨_, rfl, Nat.zero_le _, h0⟩, ?_⟩
    rintro i m σ' H' ⟨rfl, hi, p⟩
    have q1 := Same.seq (hk i σ' H' p) h
    by_cases hlt : i < xs.length
    · refine .inr ⟨⟨xs, xs[i], q1, by simp [hlt]⟩, Pv (i + 1), fun σ2 H2 p' => ⟨_, by omega, rfl, by omega, p'⟩, ?_⟩
      rintro x H2 ⟨T, x1, rfl, hT, rfl, f1⟩
      exact ⟨T, [.int (i : Nat), x1], rfl, .inl (.inl upd_same), rfl, .int (i : Nat), [x1], rfl, x1, [], rfl, rfl, hs i x1 T σ' H' (f1 xs q1) p hT⟩
    · have e : i = xs.length := by omega
      subst e
      exact .inl ⟨⟨xs, q1, by omega⟩, hd σ' H' p⟩
  · refine .inr ⟨h, fun i m σ H => m = xs.length - i ∧ i ≤ xs.length ∧ Pv i σ H, ⟨_, rfl, Nat.zero_le _, h0⟩, ?_⟩
    rintro i m σ' H' ⟨rfl, hi, p⟩
    have q1 := Same.sqT (hk i σ' H' p) h
    by_cases hlt : i < xs.length
    · refine .inr ⟨⟨xs, xs[i], q1, by simp [hlt]⟩, Pv (i + 1), fun σ2 H2 p' => ⟨_, by omega, rfl, by omega, p'⟩, ?_⟩
      rintro x H2 ⟨T, x1, rfl, hT, rfl, f1⟩
      exact ⟨T, [.int (i : Nat), x1], rfl, .inl (.inl upd_same), rfl, .int (i : Nat), [x1], rfl, x1, [], rfl, rfl, hs i x1 T σ' H' (f1 xs q1) p hT⟩
    · have e : i = xs.length := by omega
      subst e
      exact .inl ⟨⟨xs, q1, by omega⟩, hd σ' H' p⟩
end

/-! len(set(xs)) of numbers that may repeat -/
/-- the different ones, in the order in which they come -/
def ddZ (acc : List Int) : List Int → List Int
  | [] => acc
  | x :: xs => ddZ (if acc.any (· == x) then acc else acc ++ [x]) xs
theorem ddZ_snoc (x : Int) : ∀ (xs acc : List Int), ddZ acc (xs ++ [x]) = if (ddZ acc xs).any (· == x) then ddZ acc xs else ddZ acc xs ++ [x]
  | [], acc => rfl
  | y :: ys, acc => ddZ_snoc x ys _
theorem firstMet_ddZ (ns : List Int) : ∀ i, i ≤ ns.length → PyProof.Rows.firstMet (fun i => ns.getD i 0) i = ddZ [] (ns.take i)
  | 0, _ => rfl
  | i + 1, h => by
    have e : ns.take (i + 1) = ns.take i ++ [ns.getD i 0] := by
      rw [List.take_succ, List.getD_eq_getElem?_getD, List.getElem?_eq_getElem (show i < ns.length by omega)]; rfl
    rw [PyProof.Rows.firstMet_succ, firstMet_ddZ ns i (by omega), e, ddZ_snoc]
    rfl
theorem ddZ_le : ∀ (xs acc : List Int), (ddZ acc xs).length ≤ acc.length + xs.length
  | [], acc => Nat.le_refl _
  | x :: xs, acc => by
    have := ddZ_le xs (if acc.any (· == x) then acc else acc ++ [x])
    show (ddZ _ xs).length ≤ _
    split at this <;> rename_i h
    · rw [if_pos h]; simp; omega
    · rw [if_neg h]; simp at this ⊢; omega
theorem ddZ_eq : ∀ (xs acc : List Int), (ddZ acc xs).length = acc.length + xs.length ↔ xs.Nodup ∧ ∀ x ∈ xs, x ∉ acc
  | [], acc => by simp [ddZ]
  | x :: xs, acc => by
    show (ddZ _ xs).length = _ ↔ _
    by_cases h : acc.any (· == x) = true
    · rw [if_pos h]
      have := ddZ_le xs acc
      have hx : x ∈ acc := by
        obtain ⟨y, hy, e⟩ := List.any_eq_true.mp h
        rw [← eq_of_beq e]; exact hy
      constructor
      · intro z; simp at z; omega
      · intro z; exact absurd hx (z.2 x (List.mem_cons_self ..))
    · rw [if_neg h]
      have ih := ddZ_eq xs (acc ++ [x])
      have hx : x ∉ acc := fun hx => h (List.any_eq_true.mpr ⟨x, hx, beq_self_eq_true x⟩)
      rw [show acc.length + (x :: xs).length = (acc ++ [x]).length + xs.length by simp; omega, ih, List.nodup_cons]
      constructor
      · rintro ⟨h1, h2⟩
        refine ⟨⟨fun m => ?_, h1⟩, fun y hy => ?_⟩
        · exact h2 x m (by simp)
        · rcases List.mem_cons.mp hy with rfl | hy
          · exact hx
          · exact fun m => h2 y hy (by simp [m])
      · rintro ⟨⟨h1, h2⟩, h3⟩
        refine ⟨h2, fun y hy m => ?_⟩
        rcases List.mem_append.mp m with m | m
        · exact h3 y (List.mem_cons_of_mem _ hy) m
        · rw [List.mem_singleton.mp m] at hy; exact h1 hy
def setN (ns : List Int) : Nat := (ddZ [] ns).length
theorem setN_le (ns : List Int) : setN ns ≤ ns.length := by have := ddZ_le ns []; simpa [setN] using this
theorem setN_eq (ns : List Int) : setN ns = ns.length ↔ ns.Nodup := by
  have := ddZ_eq ns []
  simp only [List.length_nil, Nat.zero_add, List.not_mem_nil, not_false_eq_true, implies_true, and_true] at this
  exact this
theorem setN_lt (ns : List Int) : setN ns < ns.length ↔ ¬ ns.Nodup := by
  have h1 := setN_le ns
  have h2 := setN_eq ns
  constructor
  · intro h z; rw [← h2] at z; omega
  · intro h
    rcases Nat.lt_or_ge (setN ns) ns.length with q | q
    · exact q
    · exact absurd (h2.mp (by omega)) h
def tLenSet (K : PySem.W.Frag) (ta : TE) : TE := fun σ H Q => ta σ H fun x H1 => ∃ (l : Addr) (ns : List Int), x = .ref l ∧ SqL K H1 l (ns.map V.int) ∧ ns.length ≤ 4000 ∧ Q (.int (setN ns : Nat)) H1
theorem z_lenSetE {X : Cx} {a : Expr} {ta : TE} {p p2 q pos : Pos} (hg : Gl X "len") (m_len : X.mg "len" = none) (hg2 : Gl X "set") (m_set : X.mg "set" = none) (ha : PE X a ta) (hc : X.calm = true := by rfl)
    (na : starEach [a] X.env = (false, eval a X.env) :: starEach [] X.env := by rfl) : PE X (.Call (.Name "len" p) [.Call (.Name "set" p2) [a] [] q] [] pos) (tLenSet X.K ta) := by
  refine ⟨fun pins s σ H Q I h => PyProof.Rows.Call_ (ld_blt I hg m_len boot_len (PyProof.Rows.callWith_builtin1 (PyProof.Rows.args_cons (PyProof.Rows.Call_ (ld_blt I hg2 m_set PyProof.Rows.boot_set (PyProof.Rows.callWith_type1 (PyProof.Rows.args_cons (thn (ha.run pins s σ H _ I h) fun v s1 ⟨x, H1, I1, r1, q1⟩ => PyProof.Rows.args_nil ?_) na) na rfl))) rfl) rfl rfl))⟩
  obtain ⟨l, ns, rfl, hq, hl, q1⟩ := q1
  cases r1
  obtain ⟨us, r, pl, _⟩ := I1.list hq
  have nn : us.toArray.size = ns.length := by rw [List.size_toArray, ← r.length, List.length_map]
  refine PySem.call_set_list (I1.ok.hd hc) pl.isList (by simpa using RZ.intsAre_vals r) (by rw [nn]; unfold scanBound; omega) fun h' tk hS hk => PyProof.Rows.args_nil ?_
  rw [nn, firstMet_ddZ ns ns.length (Nat.le_refl _), List.take_length] at hS
  obtain ⟨o, es, ep, t, ho, hex, hd, _, _, _, hf, hn⟩ := hS
  have lt : (ddZ [] ns).length ≤ 4000 := Nat.le_trans (setN_le ns) hl
  have J : Inv X pins σ H1 { s1 with heap := h', toks := tk } := I1.kept fun b o e => hk b o (Heap.lt_size e) e
  exact call_len_set ho hex hd hf (by rw [hn]; omega) ⟨.int (setN ns : Nat), H1, J.tok _, ⟨_, by rw [hn]; rfl⟩, q1⟩
theorem z_lenSet {K : PySem.W.Frag} {ta : TE} {σ : L2.St} {H : Hp} {Q : VK} (k : ta σ H fun x H1 => ∃ (l : Addr) (ns : List Int), x = .ref l ∧ SqL K H1 l (ns.map V.int) ∧ ns.length ≤ 4000 ∧ Q (.int (setN ns : Nat)) H1) : tLenSet K ta σ H Q := k

/-! what may be raised; keywords -/
/-- no way out -/
abbrev W0 : WX := fun _ _ _ _ => False
theorem passF {X : Cx} : ∀ σ, PassesAt (L2.CX X.prog X.w) X σ (WE W0 σ) := fun σ => passAt takes0 σ
theorem passW {X : Cx} {W : WX} (tk : Takes X W) : ∀ σ, PassesAt (L2.CX X.prog X.w) X σ (WE W σ) := fun σ => passAt tk σ
theorem pass00 {X : Cx} : ∀ σ, PassesAt CX0 X σ (WE W0 σ) := fun σ pins H s e s' I c => pass0 pins σ H s e s' I c
/-- a body that may raise keeps its promise -/
def WdX (T : WX → TS) (N : List Str) (n : Nat) (sp : Sp) : Prop := ∀ (vs : List V) (H : Hp) (Q : VK) (E : XK), sp vs H Q E → vs.length = n ∧ T (fun cls d _ H => E cls d H) { nx := fun _ H' => Q .non H', rt := Q } (start N vs) H
structure DfnX (P : Program) (w : World) (K : PySem.W.Frag) (mg : Str → Option Value) (base : Heap) (k : Nat) (x : Str) (ps : List Str) (sp : Sp) : Prop where
  ex : ∃ (f : Addr) (fd : FuncData), mg x = some (.ref f) ∧ PySem.W.keepIn K (.ref f) = true ∧ Binds K fd ps [] ∧ FnOk P w K mg base (L2.CX P w) k f fd ps sp
structure MkrX (P : Program) (w : World) (K : PySem.W.Frag) (mg : Str → Option Value) (base : Heap) (k : Nat) (C : Addr) (ps : List Str) (sp : Sp) : Prop where
  ex : ∃ (f : Addr) (fd : FuncData), Mk K C f ∧ Binds K fd ps [] ∧ FnOk P w K mg base (L2.CX P w) k f fd ps sp
structure MthX (P : Program) (w : World) (K : PySem.W.Frag) (mg : Str → Option Value) (base : Heap) (k : Nat) (C : Addr) (m : Str) (ps : List Str) (sp : Sp) : Prop where
  ex : ∃ (f : Addr) (fd : FuncData), Meth K C m f ∧ Binds K fd ps [] ∧ FnOk P w K mg base (L2.CX P w) k f fd ps sp
/-- a constant: a value, or the empty tuple -/
inductive Cst where
  | v (x : V)
  | e
def Cst.Is (K : PySem.W.Frag) : Cst → V → Prop
  | .v x, u => u = x
  | .e, u => ∃ T, u = .ref T ∧ ∀ H, SqT K H T []
/-- keyword-only values by places: true: given, false: lacking -/
def gSel (sel : List (Bool × Nat)) {α : Type} (vs mz zs : List α) : List α := vs ++ sel.filterMap fun z => if z.1 then zs[z.2]? else mz[z.2]?
theorem gSel_rel (sel : List (Bool × Nat)) {vs mz zs : List V} {us mv ws : List Value} (h1 : Vals vs us) (h2 : Vals mz mv) (h3 : Vals zs ws) : Vals (gSel sel vs mz zs) (gSel sel us mv ws) := by
  unfold gSel
  refine h1.append ?_
  have one : ∀ {xs : List V} {as : List Value} (i : Nat), Vals xs as → (xs[i]? = none ∧ as[i]? = none) ∨ ∃ x a, xs[i]? = some x ∧ as[i]? = some a ∧ RelV x a := by
    intro xs as i r
    cases e : xs[i]? with
    | none => exact .inl ⟨rfl, Vals.none_of r e⟩
    | some x => obtain ⟨a, ea, ra⟩ := Vals.get r e; exact .inr ⟨x, a, rfl, ea, ra⟩
  induction sel with
  | nil => exact .nil
  | cons z t ih =>
    obtain ⟨b, i⟩ := z
    cases b with
    | true =>
      rcases one i h3 with ⟨e1, e2⟩ | ⟨x, a, e1, e2, r⟩
      · simp only [List.filterMap_cons, if_pos, e1, e2]; exact ih
      · simp only [List.filterMap_cons, if_pos, e1, e2]; exact .cons r ih
    | false =>
      rcases one i h2 with ⟨e1, e2⟩ | ⟨x, a, e1, e2, r⟩
      · simp only [List.filterMap_cons, Bool.false_eq_true, if_false, e1, e2]; exact ih
      · simp only [List.filterMap_cons, Bool.false_eq_true, if_false, e1, e2]; exact .cons r ih
/-- making by n values and the keywords ks; ms: what is lacking -/
structure MkrK (CX : CXT) (P : Program) (w : World) (K : PySem.W.Frag) (mg : Str → Option Value) (base : Heap) (k : Nat) (C : Addr) (ps : List Str) (sp : Sp) (n : Nat) (ks : List Str) (ms : List Cst) (sel : List (Bool × Nat)) : Prop where
  ex : ∃ (f : Addr) (fd : FuncData) (g : List Value → List Value → List Value) (ds : List V), Mk K C f ∧ All2 (Cst.Is K) ms ds ∧ KBn K fd ps (n + 1) ks g (fun vs zs => gSel sel vs ds zs) ∧ FnOk P w K mg base CX k f fd ps sp
def tMkX (K : PySem.W.Frag) (c : CEnv) (x : Str) (gs : List Str) (sp : Sp) (W : WX) (t : TA) : TE := fun σ H Q => t σ H fun vs H1 => ClsOk K c x gs → ∀ p dx, H1 p = none → H1 dx = none → dx ≠ p →
  sp (.ref p :: vs) (upd (upd H1 dx (.own p)) p (.ins (c.cls x) dx [])) (fun v H2 => v = .non ∧ Q (.ref p) H2) (WE W σ)
def tMkK (K : PySem.W.Frag) (c : CEnv) (x : Str) (gs : List Str) (n m : Nat) (ms : List Cst) (sel : List (Bool × Nat)) (sp : Sp) (W : WX) (t tk : TA) : TE := fun σ H Q => t σ H fun vs H1 => tk σ H1 fun zs H2 => vs.length = n ∧ zs.length = m ∧ (ClsOk K c x gs → ∀ ds, All2 (Cst.Is K) ms ds → ∀ p dx, H2 p = none → H2 dx = none → dx ≠ p →
  sp (gSel sel (.ref p :: vs) ds zs) (upd (upd H2 dx (.own p)) p (.ins (c.cls x) dx [])) (fun v H3 => v = .non ∧ Q (.ref p) H3) (WE W σ))
def tMtX (c : CEnv) (x m : Str) (sp : Sp) (W : WX) (ta : TE) (t : TA) : TE := fun σ H Q => ta σ H fun v H1 => ∃ a dx fs, v = .ref a ∧ H1 a = some (.ins (c.cls x) dx fs) ∧ fs.lookup m = none ∧ t σ H1 fun vs H2 => sp (v :: vs) H2 Q (WE W σ)
/-! own exceptions -/
structure ExcF (K : PySem.W.Frag) (mg : Str → Option Value) (c : CEnv) (x : Str) : Prop where
  q : PySem.W.excIn K (c.cls x) [.type "ValueError", .type "Exception", .type "BaseException", .type "object"] "ValueError.__new__" = true
  mg : mg x = some (.ref (c.cls x))
  kp : PySem.W.keepIn K (.ref (c.cls x)) = true
  sb : PySem.W.subIn K (.ref (c.cls x)) (.type "BaseException") = some true
  ty : PySem.W.typeIn K (.ref (c.cls x)) = some (.type "type")
def sRaise (c : CEnv) (x : Str) (W : WX) : TS := fun _ σ H => W (.ref (c.cls x)) none σ H
def sTry (K : PySem.W.Frag) (c : CEnv) (x : Str) (ys : List Str) (tb : WX → TS) (ts : TS) (Wo : WX) : TS := fun D σ H =>
  (∀ y ∈ ys, PySem.W.exmOne K (.ref (c.cls y)) (.ref (c.cls x)) = some (SUB y x)) → tb (wOnly K (.ref (c.cls x)) (fun _ _ _ => ts) Wo D) D σ H
section
variable {X : Cx} {c : CEnv} {k n : Nat} {x m : Str} {ps gs : List Str} {sp : Sp} {W : WX} {p pos apos : Pos} {e o : Expr} {es : List Expr} {t tk : TA} {ta : TE}
theorem z_callX (D : DfnX X.prog X.w X.K X.mg X.base k x ps sp) (hx : ∀ σ, PassesAt (L2.CX X.prog X.w) X σ (WE W σ)) (hr : Room k X.A) (hg : Gl X x) (ha : PA X (e :: es) t) (hdb : (x == ("__debug__" : Str)) = false := by decide)
    (he : starEach (e :: es) X.env = (false, eval e X.env) :: starEach es X.env := by rfl) (hpl : (backTo pos (starEach es X.env)).any (·.1) = false := by rfl) : PE X (.Call (.Name x p) (e :: es) [] pos) (tCallS sp (WE W) t) := by
  obtain ⟨f, fd, hm, hk, hb, F⟩ := D.ex
  exact pe_callS F hr hg hm hk hb hx ha hdb he hpl
/-- a made instance: what __init__ raises is wished for at the slots as they stand -/
theorem run_mkS {CX : CXT} {C f : Addr} {fd : FuncData} {ks : List Str} {g : List Value → List Value → List Value} {gV : List V → List V → List V} {E : XK} {pins : List (Addr × Obj)} {σ : L2.St} {H : Hp} {s : Shared} {Q : VK} {us ws : List Value} {vs zs : List V}
    (M : Mk X.K C f) (F : FnOk X.prog X.w X.K X.mg X.base CX k f fd ps sp) (hr : Room (k + 1) X.A) (bind : ∀ s : Shared, X.K.In s.heap → BindsTo s fd ⟨Value.ref (s.heap.objs.size - 1) :: us, ks.zip ws⟩ (ps.zip (g (Value.ref (s.heap.objs.size - 1) :: us) ws)))
    (rel : ∀ q, Vals (gV (V.ref q :: vs) zs) (g (Value.ref q :: us) ws)) (hx : PassesAt CX X σ E) (I : Inv X pins σ H s)
    (h : ∀ q dx, H q = none → H dx = none → dx ≠ q → sp (gV (.ref q :: vs) zs) (upd (upd H dx (.own q)) q (.ins C dx [])) (fun v H2 => v = .non ∧ Q (.ref q) H2) E)
    (bind2 : ∀ (s2 : Shared) (q : Addr), X.K.In s2.heap → BindsTo s2 fd ⟨Value.ref q :: us, ks.zip ws⟩ (ps.zip (g (Value.ref q :: us) ws))) :
    wpAny (model X.prog X.w) X.A (call (.ref C) us (ks.zip ws)) (EP X pins σ Q) X.xe s := by
  have want := h (s.heap.objs.size + 1) s.heap.objs.size (I.hok.fresh (Nat.le_succ _)) (I.hok.fresh (Nat.le_refl _)) (Nat.ne_of_lt (Nat.lt_succ_self _))
  have J := Inv.made (C := C) I
  have go := F.run _ X.stack _ _ ⟨Value.ref (s.heap.objs.size + 1) :: us, ks.zip ws⟩ (g (Value.ref (s.heap.objs.size + 1) :: us) ws) _ _ E (hr.make C us (ks.zip ws)) (J.env0.make C us (ks.zip ws)) (bind2 _ _ J.kIn) (rel _) want
  refine wpAny_call (make_map (f := f) I.kIn M.makes M.init (beq_iff_eq.mp M.fn) (codeAny_mono go fun r s' hr' => ?_))
  match r, hr' with
  | .error e, hr' => exact hx pins _ _ e s' J hr'
  | .ok (.ret u), hr' =>
    obtain ⟨v, H', I3, rv, ev, q3⟩ := J.after hr'
    subst ev
    exact ⟨rv, ⟨V.ref (s.heap.objs.size + 1), H', I3, rfl, q3⟩⟩
  | .ok .next, hr' => exact hr'.elim
  | .ok .brk, hr' => exact hr'.elim
  | .ok .cont, hr' => exact hr'.elim
theorem z_makeX (CF : ClsF X.K X.mg c x gs) (M : MkrX X.prog X.w X.K X.mg X.base k (c.cls x) ps sp) (hx : ∀ σ, PassesAt (L2.CX X.prog X.w) X σ (WE W σ)) (hr : Room (k + 1) X.A) (hg : Gl X x) (ha : PA X (e :: es) t) (hdb : (x == ("__debug__" : Str)) = false := by decide)
    (he : starEach (e :: es) X.env = (false, eval e X.env) :: starEach es X.env := by rfl) (hpl : (backTo pos (starEach es X.env)).any (·.1) = false := by rfl) : PE X (.Call (.Name x p) (e :: es) [] pos) (tMkX X.K c x gs sp W t) := by
  obtain ⟨f, fd, hM, hb, F⟩ := M.ex
  refine ⟨fun pins s σ H Q I h => ?_⟩
  refine wpAny_Call_Name_kw (ld_glob I hg CF.mg ?_ hdb)
  refine PySem.W.callWith_K (h₀ := X.base) I.ok.mod.kin hM.kp (thn (ha.run pos pins s σ H _ I h) fun us s1 ⟨vs, H1, I1, r, q⟩ => ⟨I1.kIn, ?_⟩) he hpl
  have hl : ∀ a : Addr, (Value.ref a :: us).length = ps.length := fun a => by
    have w := F.len _ _ _ _ (q CF.ok (s1.heap.objs.size + 1) s1.heap.objs.size (I1.hok.fresh (Nat.le_succ _)) (I1.hok.fresh (Nat.le_refl _)) (Nat.ne_of_lt (Nat.lt_succ_self _)))
    have l := r.length
    simp only [List.length_cons] at w ⊢
    omega
  have b : ∀ (s2 : Shared) (a : Addr), X.K.In s2.heap → BindsTo s2 fd ⟨Value.ref a :: us, ([] : List Str).zip ([] : List Value)⟩ (ps.zip (Value.ref a :: us)) := fun s2 a ki => by
    have z := hb s2 (Value.ref a :: us) ki (by rw [List.append_nil]; exact hl a)
    rw [List.append_nil] at z
    exact z
  exact run_mkS (ks := []) (ws := []) (zs := []) (g := fun us _ => us) (gV := fun vs _ => vs) hM F hr (fun s2 ki => b s2 _ ki) (fun _ => .cons rfl r) (hx σ) I1 (q CF.ok) b
theorem z_makeK {CX : CXT} {ks : List Str} {kws : List Keyword} {ms : List Cst} {sel : List (Bool × Nat)} {nk : Nat} (CF : ClsF X.K X.mg c x gs) (M : MkrK CX X.prog X.w X.K X.mg X.base k (c.cls x) ps sp n ks ms sel) (hx : ∀ σ, PassesAt CX X σ (WE W σ)) (hr : Room (k + 1) X.A) (hg : Gl X x) (ha : PA X (e :: es) t) (hkw : PK X kws tk)
    (hnk : ks.length = nk := by rfl) (hall : (backToKw pos (keywordEach kws X.env)).all (·.1.isSome) = true := by rfl) (hks : (backToKw pos (keywordEach kws X.env)).filterMap (·.1) = ks := by rfl) (hdb : (x == ("__debug__" : Str)) = false := by decide)
    (he : starEach (e :: es) X.env = (false, eval e X.env) :: starEach es X.env := by rfl) (hpl : ((backTo pos (starEach (e :: es) X.env)).any (·.1) || (backToKw pos (keywordEach kws X.env)).any (·.1.isNone)) = false := by rfl) :
    PE X (.Call (.Name x p) (e :: es) kws pos) (tMkK X.K c x gs n nk ms sel sp W t tk) := by
  subst hnk
  obtain ⟨f, fd, g, ds, hM, hds, hb, F⟩ := M.ex
  refine ⟨fun pins s σ H Q I h => ?_⟩
  refine wpAny_Call_Name_kw (ld_glob I hg CF.mg ?_ hdb)
  refine PySem.W.callWith_KW (h₀ := X.base) I.ok.mod.kin hM.kp hall (thn (ha.run pos pins s σ H _ I h) fun us s1 ⟨vs, H1, I1, r, q⟩ => ?_) hpl he
  refine thn (hkw.run pos pins s1 σ H1 _ I1 q) fun ws s2 ⟨zs, H2, I2, rz, l1, l2, q2⟩ => ⟨I2.kIn, ?_⟩
  rw [hks]
  have n1 : ∀ a : Addr, (Value.ref a :: us).length = n + 1 := fun a => by rw [List.length_cons, ← r.length, l1]
  exact run_mkS (g := g) (gV := fun vs zs => gSel sel vs ds zs) hM F hr (fun s3 ki => hb.to s3 _ ws ki (n1 _) (rz.length.symm.trans l2)) (fun a => hb.rel (.cons rfl r) rz) (hx σ) I2 (q2 CF.ok ds hds) (fun s3 a ki => hb.to s3 _ ws ki (n1 _) (rz.length.symm.trans l2))
theorem z_raise {j : Nat} {p2 pos' : Pos} (hc : X.calm = true) (E : ExcF X.K X.mg c x) (tk : Takes X W) (hg : Gl X x) (hdb : (x == ("__debug__" : Str)) = false := by decide) : PS X (.Raise (some (.Call (.Name x p) [.Constant (.str m) j p2] [] pos)) none pos') (sRaise c x W) :=
  ps_raise hc tk (pmk_own F.excBase_ValueError E.q E.mg E.kp (raises_own E.sb E.ty) hg hdb)
theorem z_try {x : Str} {ys : List Str} {body suite : List Stmt} {b₀ : Stmt} {np pos pos' : Pos} {tb : WX → TS} {ts : TS} {Wo : WX} (hs : X.stack = X.env :: X.outer) (hf : X.env.frame = some X.env.locals) (hg : Gl X x) (hm : X.mg x = some (.ref (c.cls x))) (he : ∀ y ∈ ys, PySem.W.exmOne X.K (.ref (c.cls y)) (.ref (c.cls x)) = some (SUB y x)) (tk : Takes X Wo)
    (hb : ∀ (W : WX) (pn : List (Addr × Obj)) (xe : Value → Shared → Prop), Takes (X.tr pn xe) W → PassesOwn (model X.prog X.w) X.A X.env xe → PSs (X.tr pn xe) body (tb W))
    (hsu : ∀ (a : Addr) (oe : Obj) (cls : Value) (d : Option Addr) (pn : List (Addr × Obj)), Zc cls d oe → (∃ vs, oe.data = .fields vs) → PSs (X.suite a ((a, oe) :: pn)) (b₀ :: suite) ts) (hdb : (x == ("__debug__" : Str)) = false := by decide) :
    PS X (.Try body [.ExceptHandler (some (.Name x np)) none (b₀ :: suite) pos'] [] [] pos) (sTry X.K c x ys tb ts Wo) :=
  ⟨fun pins s σ H D I h => (ps_try_only (ts := fun _ _ _ => ts) hs hf ⟨hg, hdb, .inl hm⟩ tk hb hsu).run pins s σ H D I (h he)⟩
end
section
variable {K : PySem.W.Frag} {c : CEnv} {x y m : Str} {gs : List Str} {H : Hp} {Q : VK} {σ : L2.St} {t tk : TA} {ta : TE} {sp : Sp} {W : WX} {D : Ends}
theorem z_calS (k : t σ H fun vs H1 => sp vs H1 Q (WE W σ)) : tCallS sp (WE W) t σ H Q := k
theorem z_mkX (k : t σ H fun vs H1 => ClsOk K c x gs → ∀ p dx, H1 p = none → H1 dx = none → dx ≠ p → sp (.ref p :: vs) (upd (upd H1 dx (.own p)) p (.ins (c.cls x) dx [])) (fun v H2 => v = .non ∧ Q (.ref p) H2) (WE W σ)) : tMkX K c x gs sp W t σ H Q := k
theorem z_mkK {n nk : Nat} {ms : List Cst} {sel : List (Bool × Nat)} (k : t σ H fun vs H1 => tk σ H1 fun zs H2 => vs.length = n ∧ zs.length = nk ∧ (ClsOk K c x gs → ∀ ds, All2 (Cst.Is K) ms ds → ∀ p dx, H2 p = none → H2 dx = none → dx ≠ p →
  sp (gSel sel (.ref p :: vs) ds zs) (upd (upd H2 dx (.own p)) p (.ins (c.cls x) dx [])) (fun v H3 => v = .non ∧ Q (.ref p) H3) (WE W σ))) : tMkK K c x gs n nk ms sel sp W t tk σ H Q := k
theorem z_mtX (k : ta σ H fun v H1 => ∃ a dx fs, v = .ref a ∧ H1 a = some (.ins (c.cls x) dx fs) ∧ fs.lookup m = none ∧ t σ H1 fun vs H2 => sp (v :: vs) H2 Q (WE W σ)) : tMtX c x m sp W ta t σ H Q := k
theorem z_rse (k : W (.ref (c.cls x)) none σ H) : sRaise c x W D σ H := k
theorem z_tr {ys : List Str} {tb : WX → TS} {ts : TS} {Wo : WX} (k : (∀ y ∈ ys, PySem.W.exmOne K (.ref (c.cls y)) (.ref (c.cls x)) = some (SUB y x)) → tb (wOnly K (.ref (c.cls x)) (fun _ _ _ => ts) Wo D) D σ H) : sTry K c x ys tb ts Wo D σ H := k
/-- an exception of the clause's class -/
theorem z_caught {ts : TS} {Wo : WX} {d : Option Addr} (h : PySem.W.exmOne K (.ref (c.cls y)) (.ref (c.cls x)) = some (SUB y x)) (e : SUB y x = true) (k : ts D σ H) : wOnly K (.ref (c.cls x)) (fun _ _ _ => ts) Wo D (.ref (c.cls y)) d σ H :=
  ⟨true, by rw [h, e], fun _ _ _ => k, fun z => nomatch z⟩
theorem cst0 {ds : List V} (h : All2 (Cst.Is K) [] ds) : ds = [] := by cases h; rfl
theorem cstE {ms : List Cst} {ds : List V} (h : All2 (Cst.Is K) (.e :: ms) ds) : ∃ T ds', ds = .ref T :: ds' ∧ (∀ H, SqT K H T []) ∧ All2 (Cst.Is K) ms ds' := by
  cases h with
  | cons h t => obtain ⟨T, rfl, e⟩ := h; exact ⟨T, _, rfl, e, t⟩
theorem cstV {v : V} {ms : List Cst} {ds : List V} (h : All2 (Cst.Is K) (.v v :: ms) ds) : ∃ ds', ds = v :: ds' ∧ All2 (Cst.Is K) ms ds' := by
  cases h with
  | cons h t => cases h; exact ⟨_, rfl, t⟩
end
section
variable {K : PySem.W.Frag} {H : Hp} {σ : L2.St}
theorem z_gTup3 {t' : Addr} {a b d : V} {u v w : Nat} {P : L2.St → Hp → Prop} (h : SqT K H t' [a, b, d]) (k : P (((σ.set u (some a)).set v (some b)).set w (some d)) H) : gTup K 3 (gCons (gName u) (gCons (gName v) (gCons (gName w) gNil))) (.ref t') σ H P :=
  ⟨t', [a, b, d], rfl, h, rfl, a, [b, d], rfl, b, [d], rfl, d, [], rfl, rfl, k⟩
end
theorem dec_rn {a : Addr} : decide (V.ref a = V.non) = false := decide_eq_false (fun z => by cases z)
theorem dec_in {a : Int} : decide (V.int a = V.non) = false := decide_eq_false (fun z => by cases z)
theorem dec_sn {a : Str} : decide (V.str a = V.non) = false := decide_eq_false (fun z => by cases z)
theorem dec_bn {a : Bool} : decide (V.bl a = V.non) = false := decide_eq_false (fun z => by cases z)
/-! constants: tuples of the module -/
def tCstT (K : PySem.W.Frag) (xs : List V) : TE := fun σ H Q => ∀ T, (∀ H, SqT K H T xs) → Q (.ref T) H
theorem z_gtup {X : Cx} {x : Str} {xs : List V} {pos : Pos} (hm : ∃ T, X.mg x = some (.ref T) ∧ ∀ H, SqT X.K H T xs) (hg : Gl X x) (hd : (x == ("__debug__" : Str)) = false := by decide) : PE X (.Name x pos) (tCstT X.K xs) := by
  obtain ⟨T, hm, hs⟩ := hm
  exact ⟨fun pins s σ H Q I h => ld_glob I hg hm ⟨.ref T, H, I, rfl, h T hs⟩ hd⟩
theorem z_cstT {K : PySem.W.Frag} {xs : List V} {σ : L2.St} {H : Hp} {Q : VK} (k : ∀ T, (∀ H, SqT K H T xs) → Q (.ref T) H) : tCstT K xs σ H Q := k
theorem sqT_lit {K : PySem.W.Frag} {T : Addr} {dd : Option Addr} {its : List Value} {n : Nat} {sl : Array (Option Value)} {xs : List V} (l : K.lookup T = some ⟨.type "tuple", dd, .seq its.toArray n, sl⟩) (h : Vals xs its) (hs : xs.length ≤ 1000) : ∀ H, SqT K H T xs := fun H =>
  .inr ⟨_, _, _, l, rfl, rfl, by have := h.length; simp; exact Nat.le_trans (by omega : its.length ≤ 1000) (by decide), by simpa using h⟩
/-- an error of the class y, as «except x» asks -/
theorem exm_of {K : PySem.W.Frag} {C D : Addr} {b : Bool} (h1 : PySem.W.subIn K (.ref C) (.type "BaseException") = some true) (h2 : PySem.W.isClsIn K C = true) (h3 : PySem.W.typeIn K (.ref C) = some (.type "type")) (h4 : PySem.W.subIn K (.ref D) (.ref C) = some b) :
    PySem.W.exmOne K (.ref D) (.ref C) = some b := by
  have e1 : (PySem.W.subIn K (.ref C) (.type "BaseException") == some true) = true := by rw [h1] <;> rfl
  have e2 : ((PySem.W.clsIn K C).isSome && PySem.W.typeIn K (.ref C) == some (.type "type")) = true := by
    have q : (PySem.W.clsIn K C).isSome = true := h2
    rw [q, h3] <;> rfl
  show (if (PySem.W.subIn K (.ref C) (.type "BaseException") == some true) = true then (if ((PySem.W.clsIn K C).isSome && PySem.W.typeIn K (.ref C) == some (.type "type")) = true then PySem.W.subIn K (.ref D) (.ref C) else none) else none) = some b
  rw [if_pos e1, if_pos e2]
  exact h4

local macro_rules | `(tactic| walk_at "z") => `(tactic| with_reducible first
  | refine z_calS ?_ | refine z_mkX ?_ | refine z_mkK ?_ | refine z_mtX ?_ | refine z_rse ?_ | (refine z_tr ?_; intro _) | (refine z_cstT ?_; intro _ _) | refine z_forEA ?_ | refine z_lenSet ?_)
local macro_rules | `(tactic| walk_at "zy") => `(tactic| repeat (first | walk_at "z" | walk_at "zd" | rw [decide_eq_true rfl] | rw [dec_rn] | rw [dec_in] | rw [dec_sn] | rw [dec_bn]))

/-! dicts of the module with texts as keys; texts sign by sign -/
/-- a constant: a value, or a tuple -/
inductive DV where
  | v (x : V)
  | t (xs : List V)
def DV.Is (K : PySem.W.Frag) : DV → V → Prop
  | .v x, u => u = x
  | .t xs, u => ∃ T, u = .ref T ∧ ∀ H, SqT K H T xs
structure KD (K : PySem.W.Frag) (w : World) (mg : Str → Option Value) (x : Str) (l : List (Str × DV)) : Prop where
  ex : ∃ (d : Addr) (es : Array DictEntry) (n : Nat), mg x = some (.ref d) ∧ KDict K w d es n ∧ ∀ z : Str, (l.lookup z = none → PySem.W.nsIn K d z = some none) ∧ ∀ dv, l.lookup z = some dv → ∃ u v, PySem.W.nsIn K d z = some (some u) ∧ RelV v u ∧ dv.Is K v
def tKin (l : List (Str × DV)) (ta : TE) : TE := fun σ H Q => ta σ H fun x H1 => ∃ z, x = .str z ∧ Q (.bl (l.lookup z).isSome) H1
def tKout (l : List (Str × DV)) (ta : TE) : TE := fun σ H Q => ta σ H fun x H1 => ∃ z, x = .str z ∧ Q (.bl (!(l.lookup z).isSome)) H1
def tKix (K : PySem.W.Frag) (l : List (Str × DV)) (ta : TE) : TE := fun σ H Q => ta σ H fun x H1 => ∃ z dv, x = .str z ∧ l.lookup z = some dv ∧ ∀ v, dv.Is K v → Q v H1
section
variable {X : Cx} {x : Str} {l : List (Str × DV)} {p pos : Pos} {e : Expr} {te : TE}
theorem kd_get {K : PySem.W.Frag} {d : Addr} (h : ∀ z : Str, (l.lookup z = none → PySem.W.nsIn K d z = some none) ∧ ∀ dv, l.lookup z = some dv → ∃ u v, PySem.W.nsIn K d z = some (some u) ∧ RelV v u ∧ dv.Is K v) (z : Str) : ∃ r, PySem.W.nsIn K d z = some r ∧ r.isSome = (l.lookup z).isSome := by
  cases q : l.lookup z with
  | none => exact ⟨none, (h z).1 q, rfl⟩
  | some dv => obtain ⟨u, _, e, _⟩ := (h z).2 dv q; exact ⟨some u, e, rfl⟩
theorem kin_eq {d : Addr} {σ : L2.St} {H : Hp} {Q : VK} {K : PySem.W.Frag} (hz : ∀ z : Str, (l.lookup z = none → PySem.W.nsIn K d z = some none) ∧ ∀ dv, l.lookup z = some dv → ∃ u v, PySem.W.nsIn K d z = some (some u) ∧ RelV v u ∧ dv.Is K v) (h : tKin l te σ H Q) :
    tOp (fun x y H Q => ∃ (z : Str) (r : Option Value), x = .str z ∧ y = .ref d ∧ PySem.W.nsIn K d z = some r ∧ Q (.bl r.isSome) H) te (tC (.ref d)) σ H Q := by
  have q : (fun (y : V) (H1 : Hp) => ∃ z, y = .str z ∧ Q (.bl (l.lookup z).isSome) H1) = fun y H1 => ∃ (z : Str) (r : Option Value), y = .str z ∧ V.ref d = .ref d ∧ PySem.W.nsIn K d z = some r ∧ Q (.bl r.isSome) H1 := by
    funext y H1
    refine propext ⟨fun ⟨z, ey, q⟩ => ?_, fun ⟨z, r, ey, _, er, q⟩ => ?_⟩
    · obtain ⟨r, er, es⟩ := kd_get hz z
      exact ⟨z, r, ey, rfl, er, by rw [es]; exact q⟩
    · obtain ⟨r', er', es⟩ := kd_get hz z
      rw [er] at er'; cases er'
      exact ⟨z, ey, by rw [← es]; exact q⟩
  show te σ H _
  exact (congrArg (te σ H) q) ▸ h
theorem kout_eq {d : Addr} {σ : L2.St} {H : Hp} {Q : VK} {K : PySem.W.Frag} (hz : ∀ z : Str, (l.lookup z = none → PySem.W.nsIn K d z = some none) ∧ ∀ dv, l.lookup z = some dv → ∃ u v, PySem.W.nsIn K d z = some (some u) ∧ RelV v u ∧ dv.Is K v) (h : tKout l te σ H Q) :
    tOp (fun x y H Q => ∃ (z : Str) (r : Option Value), x = .str z ∧ y = .ref d ∧ PySem.W.nsIn K d z = some r ∧ Q (.bl (!r.isSome)) H) te (tC (.ref d)) σ H Q := by
  have q : (fun (y : V) (H1 : Hp) => ∃ z, y = .str z ∧ Q (.bl (!(l.lookup z).isSome)) H1) = fun y H1 => ∃ (z : Str) (r : Option Value), y = .str z ∧ V.ref d = .ref d ∧ PySem.W.nsIn K d z = some r ∧ Q (.bl (!r.isSome)) H1 := by
    funext y H1
    refine propext ⟨fun ⟨z, ey, q⟩ => ?_, fun ⟨z, r, ey, _, er, q⟩ => ?_⟩
    · obtain ⟨r, er, es⟩ := kd_get hz z
      exact ⟨z, r, ey, rfl, er, by rw [es]; exact q⟩
    · obtain ⟨r', er', es⟩ := kd_get hz z
      rw [er] at er'; cases er'
      exact ⟨z, ey, by rw [← es]; exact q⟩
  show te σ H _
  exact (congrArg (te σ H) q) ▸ h
theorem z_kin (D : KD X.K X.w X.mg x l) (he : PE X e te) (hg : Gl X x) (hd : (x == ("__debug__" : Str)) = false := by decide) : PE X (.Compare e [.In] [.Name x p] pos) (tKin l te) := by
  obtain ⟨d, es, n, hm, kd, hz⟩ := D.ex
  have a := pe_cmpR (pos := pos) (op_in_kd kd) he (pe_glob (v := .ref d) (pos := p) hg hm rfl hd) (by rfl)
  exact ⟨fun pins s σ H Q I h => a.run pins s σ H Q I (kin_eq hz h)⟩
theorem z_kout (D : KD X.K X.w X.mg x l) (he : PE X e te) (hg : Gl X x) (hd : (x == ("__debug__" : Str)) = false := by decide) : PE X (.Compare e [.NotIn] [.Name x p] pos) (tKout l te) := by
  obtain ⟨d, es, n, hm, kd, hz⟩ := D.ex
  have a := pe_cmpR (pos := pos) (op_notIn_kd kd) he (pe_glob (v := .ref d) (pos := p) hg hm rfl hd) (by rfl)
  exact ⟨fun pins s σ H Q I h => a.run pins s σ H Q I (kout_eq hz h)⟩
theorem z_kinP (D : KD X.K X.w X.mg x l) (he : PE X e te) (hg : Gl X x) (hd : (x == ("__debug__" : Str)) = false := by decide) : PT X (.Compare e [.In] [.Name x p] pos) (tTest (tKin l te)) := by
  obtain ⟨d, es, n, hm, kd, hz⟩ := D.ex
  have a := pt_cmpR (pos := pos) (op_in_kd kd) he (pe_glob (v := .ref d) (pos := p) hg hm rfl hd) (by rfl)
  exact ⟨fun pins s σ H Q I h => a.run pins s σ H Q I (kin_eq hz h)⟩
theorem z_koutP (D : KD X.K X.w X.mg x l) (he : PE X e te) (hg : Gl X x) (hd : (x == ("__debug__" : Str)) = false := by decide) : PT X (.Compare e [.NotIn] [.Name x p] pos) (tTest (tKout l te)) := by
  obtain ⟨d, es, n, hm, kd, hz⟩ := D.ex
  have a := pt_cmpR (pos := pos) (op_notIn_kd kd) he (pe_glob (v := .ref d) (pos := p) hg hm rfl hd) (by rfl)
  exact ⟨fun pins s σ H Q I h => a.run pins s σ H Q I (kout_eq hz h)⟩
theorem ix_kd {d : Addr} {es : Array DictEntry} {n : Nat} (D : KDict X.K X.w d es n) : IxR X (fun x y H Q => ∃ (z : Str) (u0 : Value) (v0 : V), x = .ref d ∧ y = .str z ∧ PySem.W.nsIn X.K d z = some (some u0) ∧ RelV v0 u0 ∧ Q v0 H) := by
  intro value slice pins s σ H x y v u Q I rx ry h hs
  have ex : x = .ref d := by obtain ⟨_, _, _, e, _⟩ := h; exact e
  have ev : v = .ref d := by subst ex; exact rx
  refine PyProof.Rows.tail_any (ev ▸ kd_type D I) PySem.F.slot_dict_getitem.lookup (op_item_kd D pins s σ H x y v u Q I rx ry h) hs
theorem z_kix (D : KD X.K X.w X.mg x l) (he : PE X e te) (hg : Gl X x) (hs : PlainIx e := by exact fun _ _ => rfl) (hd : (x == ("__debug__" : Str)) = false := by decide) : PE X (.Subscript (.Name x p) e pos) (tKix X.K l te) := by
  obtain ⟨d, es, n, hm, kd, hz⟩ := D.ex
  refine ⟨fun pins s σ H Q I h => ?_⟩
  have q : (fun (y : V) (H1 : Hp) => ∃ z dv, y = .str z ∧ l.lookup z = some dv ∧ ∀ v, dv.Is X.K v → Q v H1) = fun y H1 => V.ref d = .ref d ∧ ∃ z dv, y = .str z ∧ l.lookup z = some dv ∧ ∀ v, dv.Is X.K v → Q v H1 := by
    funext y H1
    exact propext ⟨fun z => ⟨rfl, z⟩, fun z => z.2⟩
  have h2 : te σ H fun y H1 => V.ref d = .ref d ∧ ∃ z dv, y = .str z ∧ l.lookup z = some dv ∧ ∀ v, dv.Is X.K v → Q v H1 := (congrArg (te σ H) q) ▸ h
  refine PyProof.Rows.Subscript_ (binT (ta := tC (.ref d)) (tb := te) (pe_glob (v := .ref d) (pos := p) hg hm rfl hd) he I (R := fun x y H1 => x = V.ref d ∧ ∃ z dv, y = .str z ∧ l.lookup z = some dv ∧ ∀ v, dv.Is X.K v → Q v H1) h2 fun v u s2 x y H2 I2 rx ry q => ?_)
  obtain ⟨rfl, z, dv, ey, el, q⟩ := q
  obtain ⟨w, w', en, r, i⟩ := (hz z).2 dv el
  exact ix_kd kd _ _ pins s2 σ H2 _ _ v u Q I2 rx ry ⟨z, w, w', rfl, ey, en, r, q w' i⟩ (hs _ _)
end
/-! what the top has written of such a dict -/
theorem find_lit {K : PySem.W.Frag} {es : List DictEntry} {l : List (Str × DV)} (r : All2 (fun (e : DictEntry) (kv : Str × DV) => (∃ t, e.key = .str kv.1 t) ∧ ∃ v, RelV v e.val ∧ kv.2.Is K v) es l) (z : Str) :
    es.any (·.refKey) = false ∧ (l.lookup z = none → es.find? (·.key.isStr z) = none) ∧ ∀ dv, l.lookup z = some dv → ∃ e v, es.find? (·.key.isStr z) = some e ∧ RelV v e.val ∧ dv.Is K v := by
  induction r with
  | nil => exact ⟨rfl, fun _ => rfl, fun dv h => by cases h⟩
  | @cons e kv es l h _ ih =>
    obtain ⟨⟨t, ek⟩, v, rv, iv⟩ := h
    obtain ⟨k, dv0⟩ := kv
    have b : e.key.isStr z = (z == k) := by
      rw [ek]
      first
        | rfl
        | (rw [Bool.eq_iff_iff]; simp [Value.isStr]; exact ⟨fun h => h.symm, fun h => h.symm⟩)
        | (simp [Value.isStr, eq_comm])
    refine ⟨by rw [List.any_cons, ih.1, Bool.or_false]; unfold DictEntry.refKey; rw [ek], ?_, ?_⟩
    · intro h
      rw [List.lookup_cons] at h
      rw [List.find?_cons, b]
      cases q : z == k with
      | true => rw [q] at h; cases h
      | false => rw [q] at h; exact ih.2.1 h
    · intro dv h
      rw [List.lookup_cons] at h
      rw [List.find?_cons, b]
      cases q : z == k with
      | true => rw [q] at h; cases h; exact ⟨e, v, rfl, rv, iv⟩
      | false => rw [q] at h; exact ih.2.2 dv h
theorem kd_of {K : PySem.W.Frag} {w : World} {mg : Str → Option Value} {x : Str} {d : Addr} {es : List DictEntry} {n : Nat} {l : List (Str × DV)} (hm : mg x = some (.ref d)) (at_ : K.lookup d = some ⟨.type "dict", none, .dict es.toArray n, #[]⟩) (lit : PySem.W.KeysLit w.params es) (low : (d == sysModules) = false)
    (r : All2 (fun (e : DictEntry) (kv : Str × DV) => (∃ t, e.key = .str kv.1 t) ∧ ∃ v, RelV v e.val ∧ kv.2.Is K v) es l) : KD K w mg x l := by
  refine ⟨d, es.toArray, n, hm, ⟨at_, by simpa using lit, low⟩, fun z => ?_⟩
  obtain ⟨h1, h2, h3⟩ := find_lit r z
  unfold PySem.W.nsIn
  rw [at_]
  dsimp only
  refine ⟨fun q => ?_, fun dv q => ?_⟩
  · have e := h2 q
    simp only [e, h1]
    rfl
  · obtain ⟨e, v, e1, rv, iv⟩ := h3 dv q
    refine ⟨e.val, v, ?_, rv, iv⟩
    simp only [e1]
/-! steps -/
section
variable {K : PySem.W.Frag} {l : List (Str × DV)} {ta te : TE} {σ : L2.St} {H : Hp} {Q : VK} {g : TG} {tb : TS} {D : Ends} {x : Str} {b : Bool}
theorem z_kinT (k : ta σ H fun x H1 => ∃ z, x = .str z ∧ Q (.bl (l.lookup z).isSome) H1) : tKin l ta σ H Q := k
theorem z_koutT (k : ta σ H fun x H1 => ∃ z, x = .str z ∧ Q (.bl (!(l.lookup z).isSome)) H1) : tKout l ta σ H Q := k
theorem z_kixT (k : ta σ H fun x H1 => ∃ z dv, x = .str z ∧ l.lookup z = some dv ∧ ∀ v, dv.Is K v → Q v H1) : tKix K l ta σ H Q := k
theorem z_kst {P : Str → Prop} {x : Str} (k : P x) : ∃ z, V.str x = .str z ∧ P z := ⟨x, rfl, k⟩
def zForTx (g : TG) (tb : TS) (D : Ends) (σ : L2.St) (v : V) (H1 : Hp) : Prop := ∃ x, v = .str x ∧ ∃ W : Nat → Nat → L2.St → Hp → Prop, (∃ m, W 0 m σ H1) ∧ ∀ i m σ H, W i m σ H →
  ((Its x).stop i H ∧ D.nx σ H) ∨ ((Its x).go i H ∧ ∃ N : L2.St → Hp → Prop, (∀ σ' H', N σ' H' → ∃ m', m' < m ∧ W (i + 1) m' σ' H') ∧ ∀ y H', (Its x).yld i H y H' → g y σ H' fun σ2 H2 => tb { D with nx := N, ct := N, bk := D.nx } σ2 H2)
theorem z_forTx (k : te σ H fun v H1 => zForTx g tb D σ v H1) : tFor (iStr te) g tb D σ H := k
/-- over the signs of a text -/
theorem z_txt {u : Nat} (Pv : Nat → L2.St → Hp → Prop) (h0 : Pv 0 σ H) (hs : ∀ i c σ' H', x.cps[i]? = some c → Pv i σ' H' → tb { D with nx := Pv (i + 1), ct := Pv (i + 1), bk := D.nx } (σ'.set u (some (.str ⟨#[c]⟩))) H')
    (hd : ∀ σ' H', Pv x.cps.size σ' H' → D.nx σ' H') : zForTx (gName u) tb D σ (.str x) H := by
  refine ⟨x, rfl, fun i m σ H => m = x.cps.size - i ∧ i ≤ x.cps.size ∧ Pv i σ H, ⟨_, rfl, Nat.zero_le _, h0⟩, ?_⟩
  rintro i m σ' H' ⟨rfl, hi, p⟩
  by_cases lt : i < x.cps.size
  · refine .inr ⟨lt, Pv (i + 1), fun σ2 H2 p' => ⟨_, by omega, rfl, by omega, p'⟩, ?_⟩
    rintro y H2 ⟨rfl, c, hc, rfl⟩
    exact hs i c σ' H2 hc p
  · have e : i = x.cps.size := by omega
    subst e
    exact .inl ⟨Nat.le_refl _, hd σ' H' p⟩
/-- the place of a flat value in a list -/
theorem z_index {a : Addr} {ys : List V} {y z : V} {j : Nat} (h : SqL K H a ys) (fy : flatV y = true) (fys : ys.all flatV = true) (hz : ys[j]? = some z) (e : eqV z y = true) (no : ∀ (m : Nat) (z' : V), m < j → ys[m]? = some z' → eqV z' y = false) (k : Q (.int (j : Nat)) H) : rIndex K (.ref a) [y] H Q :=
  ⟨a, ys, y, j, z, rfl, rfl, h, fy, fys, hz, e, no, k⟩
end
/-! a try of several clauses -/
def hMany (c : CEnv) (l : List (Str × TS)) : List (Value × (Addr → Value → Option Addr → TS)) := l.map fun z => (.ref (c.cls z.1), fun _ _ _ => z.2)
def sTryM (K : PySem.W.Frag) (c : CEnv) (l : List (Str × TS)) (ys : List Str) (tb : WX → TS) (Wo : WX) : TS := fun D σ H =>
  (∀ x ∈ l.map (·.1), ∀ y ∈ ys, PySem.W.exmOne K (.ref (c.cls y)) (.ref (c.cls x)) = some (SUB y x)) → tb (wMany K Wo D (hMany c l)) D σ H
theorem z_tryM {X : Cx} {c : CEnv} {l : List (Str × TS)} {ys : List Str} {body : List Stmt} {h₀ : ExceptHandler} {hds : List ExceptHandler} {pos : Pos} {tb : WX → TS} {Wo : WX} (hs : X.stack = X.env :: X.outer) (hf : X.env.frame = some X.env.locals)
    (he : ∀ x ∈ l.map (·.1), ∀ y ∈ ys, PySem.W.exmOne X.K (.ref (c.cls y)) (.ref (c.cls x)) = some (SUB y x)) (tk : Takes X Wo)
    (hb : ∀ (W : WX) (pn : List (Addr × Obj)) (xe : Value → Shared → Prop), Takes (X.tr pn xe) W → PassesOwn (model X.prog X.w) X.A X.env xe → PSs (X.tr pn xe) body (tb W)) (hh : HdsOk X (h₀ :: hds) (hMany c l)) : PS X (.Try body (h₀ :: hds) [] [] pos) (sTryM X.K c l ys tb Wo) :=
  ⟨fun pins s σ H D I h => (ps_try_many hs hf tk hb hh).run pins s σ H D I (h he)⟩
theorem z_trM {K : PySem.W.Frag} {c : CEnv} {l : List (Str × TS)} {ys : List Str} {tb : WX → TS} {Wo : WX} {D : Ends} {σ : L2.St} {H : Hp} (k : (∀ x ∈ l.map (·.1), ∀ y ∈ ys, PySem.W.exmOne K (.ref (c.cls y)) (.ref (c.cls x)) = some (SUB y x)) → tb (wMany K Wo D (hMany c l)) D σ H) : sTryM K c l ys tb Wo D σ H := k
theorem z_caughtM {K : PySem.W.Frag} {c : CEnv} {x y : Str} {ts : TS} {l : List (Str × TS)} {Wo : WX} {D : Ends} {σ : L2.St} {H : Hp} {d : Option Addr} (h : PySem.W.exmOne K (.ref (c.cls y)) (.ref (c.cls x)) = some (SUB y x)) (e : SUB y x = true) (k : ts D σ H) : wMany K Wo D (hMany c ((x, ts) :: l)) (.ref (c.cls y)) d σ H :=
  ⟨true, by rw [h, e], fun _ _ _ => k, fun z => nomatch z⟩
theorem z_asgG {K : PySem.W.Frag} {te : TE} {n : Nat} {gs : TGs} {D : Ends} {σ : L2.St} {H : Hp} (k : te σ H fun x H1 => gTup K n gs x σ H1 D.nx) : tAsg te (gTup K n gs) D σ H := k
/-! ord; kinds of flat values; signs in a comprehension -/
def uOrd : List V → Hp → VK → Prop := fun xs H Q => ∃ x, xs = [.str x] ∧ x.length = 1 ∧ Q (.int (x.cps.getD 0 0 : Nat)) H
theorem call_uOrd {X : Cx} : CallR X (.builtin "ord") uOrd := call_ord
theorem z_ord {c : Nat} {H : Hp} {Q : VK} (k : Q (.int (c : Nat)) H) : uOrd [.str ⟨#[c]⟩] H Q := ⟨_, rfl, rfl, k⟩
theorem z_isss {K : PySem.W.Frag} {H : Hp} {Q : VK} {x : Str} (k : Q (.bl true) H) : uIsi K [.str x, .ty "str"] H Q := ⟨_, _, true, .ty _, .base (.str x), rfl, k⟩
theorem z_issb {K : PySem.W.Frag} {H : Hp} {Q : VK} {x : Str} (k : Q (.bl false) H) : uIsi K [.str x, .ty "bool"] H Q := ⟨_, _, false, .ty _, .base (.str x), rfl, k⟩
theorem z_isis {K : PySem.W.Frag} {H : Hp} {Q : VK} {i : Int} (k : Q (.bl false) H) : uIsi K [.int i, .ty "str"] H Q := ⟨_, _, false, .ty _, .base (.int i), rfl, k⟩
theorem z_isbs {K : PySem.W.Frag} {H : Hp} {Q : VK} {b : Bool} (k : Q (.bl false) H) : uIsi K [.bl b, .ty "str"] H Q := ⟨_, _, false, .ty _, .base (.bl b), rfl, k⟩
theorem z_lenS {K : PySem.W.Frag} {H : Hp} {Q : VK} {x : Str} (h : x.length ≤ 100000) (k : Q (.int x.length) H) : uLen K [.str x] H Q := ⟨Nat.le_trans h (by decide), k⟩
def zLcTx (g : TG) (tt : TT) (te : TE) (vs : List Nat) (σ : L2.St) (v : V) (H1 : Hp) (Q : VK) : Prop := ∃ x, v = .str x ∧ ∀ C, H1 C = none → ∃ W : Nat → Nat → Hp → Prop, (∃ m, W 0 m (upd H1 C (.lst []))) ∧ ∀ i m H, W i m H →
  ((Its x).stop i H ∧ Q (.ref C) H) ∨ ((Its x).go i H ∧ ∃ Nx : Hp → Prop, (∀ H', Nx H' → ∃ m', m' < m ∧ W (i + 1) m' H') ∧ ∀ y H', (Its x).yld i H y H' → g y (wipe σ vs) H' fun σ2 H2 => wipe σ2 vs = wipe σ vs ∧ tt σ2 H2 fun b H3 =>
    if b = true then te σ2 H3 fun z H4 => ∃ acc, H4 C = some (.lst acc) ∧ acc.length < sizeLine ∧ Nx (upd H4 C (.lst (acc ++ [z]))) else Nx H3)
theorem z_lcTx {ti te : TE} {g : TG} {tt : TT} {vs : List Nat} {σ : L2.St} {H : Hp} {Q : VK} (k : ti σ H fun v H1 => zLcTx g tt te vs σ v H1 Q) : tLc (iStr ti) g tt te vs σ H Q := k
theorem z_lctx {x : Str} {u : Nat} {te : TE} {tt : TT} {vs : List Nat} {σ : L2.St} {H : Hp} {Q : VK} (Pv : Addr → Nat → Hp → Prop) (h0 : ∀ C, H C = none → Pv C 0 (upd H C (.lst [])))
    (hs : ∀ C i c H', H C = none → x.cps[i]? = some c → Pv C i H' → wipe ((wipe σ vs).set u (some (.str ⟨#[c]⟩))) vs = wipe σ vs ∧ tt ((wipe σ vs).set u (some (.str ⟨#[c]⟩))) H' fun b H3 =>
      if b = true then te ((wipe σ vs).set u (some (.str ⟨#[c]⟩))) H3 fun z H4 => ∃ acc, H4 C = some (.lst acc) ∧ acc.length < sizeLine ∧ Pv C (i + 1) (upd H4 C (.lst (acc ++ [z]))) else Pv C (i + 1) H3)
    (hd : ∀ C H', H C = none → Pv C x.cps.size H' → Q (.ref C) H') : zLcTx (gName u) tt te vs σ (.str x) H Q := by
  refine ⟨x, rfl, fun C hC => ⟨fun i m H => m = x.cps.size - i ∧ i ≤ x.cps.size ∧ Pv C i H, ⟨_, rfl, Nat.zero_le _, h0 C hC⟩, ?_⟩⟩
  rintro i m H' ⟨rfl, hi, p⟩
  by_cases lt : i < x.cps.size
  · refine .inr ⟨lt, Pv C (i + 1), fun H2 p' => ⟨_, by omega, rfl, by omega, p'⟩, ?_⟩
    rintro y H2 ⟨rfl, c, hc, rfl⟩
    exact hs C i c H2 hC hc p
  · have e : i = x.cps.size := by omega
    subst e
    exact .inl ⟨Nat.le_refl _, hd C H' hC p⟩

local macro_rules | `(tactic| walk_at "z") => `(tactic| with_reducible first
  | refine z_kinT ?_ | refine z_koutT ?_ | refine z_kixT ?_ | refine z_kst ?_ | refine z_forTx ?_ | refine z_asgG ?_ | (refine z_trM ?_; intro _) | refine z_ord ?_ | refine z_isss ?_ | refine z_issb ?_ | refine z_isis ?_ | refine z_isbs ?_ | refine z_lcTx ?_)

/-! ### in, not in of an own instance; methods that raise; raise with a value -/
def uInO (c : CEnv) (x : Str) (sp : Sp) : R2 := fun u v H Q => ∃ b dx fs, v = .ref b ∧ H b = some (.ins (c.cls x) dx fs) ∧ sp [.ref b, u] H (fun z H' => ∃ k, z = .bl k ∧ Q (.bl k) H') E0
def uOutO (c : CEnv) (x : Str) (sp : Sp) : R2 := fun u v H Q => ∃ b dx fs, v = .ref b ∧ H b = some (.ins (c.cls x) dx fs) ∧ sp [.ref b, u] H (fun z H' => ∃ k, z = .bl k ∧ Q (.bl (!k)) H') E0
section
variable {X : Cx} {c : CEnv} {k : Nat} {x m : Str} {ps gs : List Str} {sp : Sp} {W : WX} {p pos apos : Pos} {e o : Expr} {es : List Expr} {t tk : TA} {ta : TE}
theorem op_inO (CF : ClsF X.K X.mg c x gs) (M : Mth X.prog X.w X.K X.mg X.base k (c.cls x) "__contains__" ps sp) (hr : Room k X.A) : OpR X (compareOp .In) (uInO c x sp) := by
  intro pins s σ H u v y z Q I rx ry hq
  obtain ⟨f, fd, hM, hb, F⟩ := M.ex
  obtain ⟨b, dx, fs, rfl, ha, q⟩ := hq
  cases ry
  obtain ⟨mA, J, _⟩ := ins_get I.hok ha
  obtain ⟨od, J, _⟩ := J.look
  obtain ⟨m, hF⟩ := I.fr
  refine PySem.W.in_K hF I.ok.mod.kin J hM.at_ hM.fn ?_
  have r2 : Vals [V.ref b, u] [Value.ref b, y] := .cons rfl (.cons rx .nil)
  refine thn (run_fn (Q := fun z H' => ∃ k, z = .bl k ∧ Q (.bl k) H') (E := E0) (dvs := []) F hr hb .nil pass0 I r2 (by simpa using q)) fun w s' hw => ?_
  obtain ⟨zv, H', I', rz, kk, ez, q'⟩ := hw
  subst ez
  have rz2 : w = Value.bool kk := rz
  subst rz2
  exact wpAny_truthy_bool ⟨.bl kk, H', I', rfl, q'⟩
theorem op_outO (CF : ClsF X.K X.mg c x gs) (M : Mth X.prog X.w X.K X.mg X.base k (c.cls x) "__contains__" ps sp) (hr : Room k X.A) : OpR X (compareOp .NotIn) (uOutO c x sp) := by
  intro pins s σ H u v y z Q I rx ry hq
  obtain ⟨f, fd, hM, hb, F⟩ := M.ex
  obtain ⟨b, dx, fs, rfl, ha, q⟩ := hq
  cases ry
  obtain ⟨mA, J, _⟩ := ins_get I.hok ha
  obtain ⟨od, J, _⟩ := J.look
  obtain ⟨m, hF⟩ := I.fr
  refine PySem.W.notIn_K hF I.ok.mod.kin J hM.at_ hM.fn ?_
  have r2 : Vals [V.ref b, u] [Value.ref b, y] := .cons rfl (.cons rx .nil)
  refine thn (run_fn (Q := fun z H' => ∃ k, z = .bl k ∧ Q (.bl (!k)) H') (E := E0) (dvs := []) F hr hb .nil pass0 I r2 (by simpa using q)) fun w s' hw => ?_
  obtain ⟨zv, H', I', rz, kk, ez, q'⟩ := hw
  subst ez
  have rz2 : w = Value.bool kk := rz
  subst rz2
  exact wpAny_truthy_bool ⟨.bl (!kk), H', I', rfl, q'⟩
theorem z_methX {pl : Sem Bool} (he : PE X o ta) (CF : ClsF X.K X.mg c x gs) (M : MthX X.prog X.w X.K X.mg X.base k (c.cls x) m ps sp) (hx : ∀ σ, PassesAt (L2.CX X.prog X.w) X σ (WE W σ)) (hr : Room k X.A) (ha : PA X (e :: es) t)
    (hst : starEach (e :: es) X.env = (false, eval e X.env) :: starEach es X.env := by rfl) (hpl : (backTo pos (starEach es X.env)).any (·.1) = false := by rfl)
    (ht : eval (.Call (.Attribute o m apos) (e :: es) [] pos) X.env = (do
      let ov ← eval o X.env
      standAt apos.atName
      let (f, first) ← holding [ov] (getMethod ov m pl)
      callWith pos f first (backTo pos (starEach (e :: es) X.env)) (backToKw pos (keywordEach [] X.env))) := by rfl) : PE X (.Call (.Attribute o m apos) (e :: es) [] pos) (tMtX c x m sp W ta t) := by
  obtain ⟨f, fd, hM, hb, F⟩ := M.ex
  refine ⟨fun pins s σ H Q I h => ?_⟩
  refine PySem.W.methodCall_KW (pl := pl) (thn (he.run pins s σ H _ I h) fun u s1 ⟨x, H1, I1, rx, a, dx, fs, ex, ea, l, q⟩ => ?_) ht
  subst ex
  obtain rfl : u = Value.ref a := rx
  refine getmeth_ok I1 ea CF.ok.cl hM l ?_
  refine PySem.W.callWith_K (first := [.ref a]) (h₀ := X.base) I.ok.mod.kin hM.kp (thn (ha.run pos pins s1 σ H1 _ I1 q) fun us s2 ⟨vs, H2, I2, r, q2⟩ => ⟨I2.kIn, ?_⟩) hst hpl
  exact run_fnS (us := .ref a :: us) (vs := .ref a :: vs) F hr hb (hx σ) I2 (.cons rfl r) q2
theorem z_methX0 {pl : Sem Bool} (he : PE X o ta) (CF : ClsF X.K X.mg c x gs) (M : MthX X.prog X.w X.K X.mg X.base k (c.cls x) m ps sp) (hx : ∀ σ, PassesAt (L2.CX X.prog X.w) X σ (WE W σ)) (hr : Room k X.A)
    (ht : eval (.Call (.Attribute o m apos) [] [] pos) X.env = (do
      let ov ← eval o X.env
      standAt apos.atName
      let (f, first) ← holding [ov] (getMethod ov m pl)
      callWith pos f first (backTo pos (starEach [] X.env)) (backToKw pos (keywordEach [] X.env))) := by rfl) : PE X (.Call (.Attribute o m apos) [] [] pos) (tMtX c x m sp W ta tNil) := by
  obtain ⟨f, fd, hM, hb, F⟩ := M.ex
  refine ⟨fun pins s σ H Q I h => ?_⟩
  refine PySem.W.methodCall_KW (pl := pl) (thn (he.run pins s σ H _ I h) fun u s1 ⟨x, H1, I1, rx, a, dx, fs, ex, ea, l, q⟩ => ?_) ht
  subst ex
  obtain rfl : u = Value.ref a := rx
  refine getmeth_ok I1 ea CF.ok.cl hM l ?_
  exact PySem.W.callWith_K0 (first := [.ref a]) I1.kIn hM.kp (run_fnS (us := [.ref a]) (vs := [.ref a]) F hr hb (hx σ) I1 (.cons rfl .nil) q)
end
def sRaiseA (c : CEnv) (x : Str) (te : TE) (W : WX) : TS := fun _ σ H => te σ H fun _ H1 => W (.ref (c.cls x)) none σ H1
theorem z_raiseA {X : Cx} {c : CEnv} {x : Str} {W : WX} {e : Expr} {te : TE} {p pos pos' : Pos} (hc : X.calm = true) (E : ExcF X.K X.mg c x) (tk : Takes X W) (hg : Gl X x) (he : PE X e te) (hs : starEach [e] X.env = (false, eval e X.env) :: starEach [] X.env := by rfl) (hdb : (x == ("__debug__" : Str)) = false := by decide) : PS X (.Raise (some (.Call (.Name x p) [e] [] pos)) none pos') (sRaiseA c x te W) :=
  ps_raise hc tk (SkE.pmk_own1 F.excBase_ValueError E.q E.mg E.kp (raises_own E.sb E.ty) hg he hs hdb)
theorem z_rsa {c : CEnv} {x : Str} {te : TE} {W : WX} {D : Ends} {σ : L2.St} {H : Hp} (k : te σ H fun _ H1 => W (.ref (c.cls x)) none σ H1) : sRaiseA c x te W D σ H := k
/-- a flat value is equal to itself -/
theorem z_neSelf {K : PySem.W.Frag} {v : V} {H : Hp} {Q : VK} (h : flatV v = true) (k : Q (.bl false) H) : uNe K v v H Q := by
  cases v <;> first | (cases h; done) | skip
  · exact z_neN k
  · refine z_neB ?_; rw [decide_eq_true rfl]; exact k
  · refine z_ne ?_; rw [decide_eq_true rfl]; exact k
  · refine z_neS ?_; rw [decide_eq_true rfl]; exact k

local macro_rules | `(tactic| walk_at "z") => `(tactic| with_reducible first
  | refine z_rsa ?_)

/-! == and != of an own instance and anything; == of sequences of own instances -/
namespace ZN
open PySem PySem.Spec PyProof.Rows PySem.SeqAt Builtin
section
variable {prog : Program} {w : World} {A : Around} {E : Value → Shared → Prop} {s : Shared} {K : PySem.W.Frag} {x C L f : Addr} {ox : Obj} {od : Option Obj} {h₀ : Heap} {m : Str → Option Value} {b tb : Value}
theorem ifBound_objNe {M : Model} {args : List Value} {Q : Option Value → Shared → Prop} (X : K.In s.heap) (I : PySem.W.InstAt s.heap x ox C od) (hs : PySem.W.findIn K (.ref C) "__ne__" = some (some (.builtin "object.__ne__")))
    (h : wpAny M A (call (.builtin "object.__ne__") (.ref x :: args)) (fun v => Q (some v)) E s) : wpAny M A (callSpecialIfBound? (.ref x) "__ne__" args) Q E s := by
  simp only [callSpecialIfBound?, bindSpecialIfBound?]
  refine wpAny_holding (wpAny_bind (wpAny_bind (wpAny_bind (I.type.here ((PySem.W.looks_findIn X hs).here ?_)))))
  refine wpAny_bind (wpAny_askSetting (wpAny_ite ?_))
  have fin : wpAny M A (call (.builtin "object.__ne__") ([.ref x] ++ args) >>= fun v => pure (some v)) Q E s := wpAny_bind (wpAny_mono h (fun v s' h' => wpAny_pure h') fun _ _ h' => h')
  split
  · exact wpAny_bind (wpAny_of_eq (F.cmp_object.ne.bind _) (wpAny_pure (by exact fin)))
  · exact wpAny_tryCatch (wpAny_bind (wpAny_of_eq (F.cmp_object.ne.bind _) (wpAny_pure (by exact fin))))
theorem entry_ne (X : K.In s.heap) (I : PySem.W.InstAt s.heap x ox C od) (he : PySem.W.findIn K (.ref C) "__eq__" = some (some (.ref f))) (hf : PySem.W.isFn K (.ref f) = true) (hu : A.units < cLine) {Q : Fin → Shared → Prop}
    (hcall : wpAny (model prog w) A (call (.ref f) [.ref x, b]) (fun v s' => ∃ k, v = .bool k ∧ Q (.done (.ret (.bool (!k)))) s') E s) :
    wpAny (model prog w) A (Builtin.«object.__ne__» ⟨[.ref x, b], []⟩) Q E s := by
  unfold Builtin.«object.__ne__»
  repeat (first
    | with_reducible refine wpAny_cRoomFor hu ?_
    | (refine wpAny_bind (m := callSpecialIfBound? (.ref x) (Str.ofString "__eq__") [b])
        (PySem.W.ifBound_K X I he hf (wpAny_mono hcall (fun r s' hr => by
          obtain ⟨k, rfl, hq⟩ := hr
          repeat (first | exact hq | exact wpAny_pure hq | exact wpAny_truthy_bool hq | (refine wpAny_bind (m := truthy (.bool _)) (wpAny_truthy_bool ?_)) | wp_step)) fun _ _ e => e)))
    | wp_step)
theorem call_ne (X : K.In s.heap) (I : PySem.W.InstAt s.heap x ox C od) (hm : PySem.W.mroIn K C (.type "object") = some true) (he : PySem.W.findIn K (.ref C) "__eq__" = some (some (.ref f))) (hf : PySem.W.isFn K (.ref f) = true) (hu : A.units + 1 < cLine) {Q : Value → Shared → Prop}
    (hcall : wpAny (model prog w) A.in1 (call (.ref f) [.ref x, b]) (fun v s' => ∃ k, v = .bool k ∧ Q (.bool (!k)) s') E s) :
    wpAny (model prog w) A (call (.builtin "object.__ne__") [.ref x, b]) Q E s :=
  wpAny_call (codeAny_call_builtin F.cmp_object.ne.plain F.cmpEntry_ne (PySem.W.check_slot F.cmpKind_ne F.cmpSplit_ne (I.type.andThen (PySem.W.looks_mroIn X hm)) (F.cmpArgs_ne _ _)
    (entry_ne (A := A.in1) X I he hf hu (wpAny_mono hcall (fun v s' hv => by
      obtain ⟨k, rfl, hq⟩ := hv
      first | exact ⟨k, rfl, wpAny_pure hq⟩ | exact ⟨k, rfl, wpAny_pure (wpAny_pure hq)⟩ | exact ⟨k, rfl, hq⟩) fun _ _ e => e))))
theorem ne_K {Q : Value → Shared → Prop} (hu : A.units + 1 < cLine) (F : PyProof.Rows.Fr h₀ L s.heap m) (X₀ : K.In h₀) (I : PySem.W.InstAt s.heap x ox C od) (hb : PySem.W.Looks (model prog w) s.heap (typeOf b) tb) (hn : PySem.W.notFirst K C tb = true)
    (hs : PySem.W.findIn K (.ref C) "__ne__" = some (some (.builtin "object.__ne__"))) (hm : PySem.W.mroIn K C (.type "object") = some true) (he : PySem.W.findIn K (.ref C) "__eq__" = some (some (.ref f))) (hf : PySem.W.isFn K (.ref f) = true)
    (h : wpAny (model prog w) A.in1 (call (.ref f) [.ref x, b]) (fun v s' => ∃ k, v = .bool k ∧ Q (.bool (!k)) s') E s) : wpAny (model prog w) A (richCompare .NotEq (.ref x) b) Q E s := by
  have X := X₀.keeps F.keep
  have one : wpAny (model prog w) A (tryCompare (.ref x) (cmpInfo .NotEq).2.1 b) (fun r s' => ∃ v, r = some v ∧ Q v s') E s := by
    unfold tryCompare
    refine wpAny_bind (ifBound_objNe X I hs (call_ne X I hm he hf hu (wpAny_mono h (fun v s' hv => ?_) fun _ _ e => e)))
    obtain ⟨k, rfl, hq⟩ := hv
    exact ⟨k, rfl, wpAny_pure ⟨_, rfl, hq⟩⟩
  unfold richCompare
  simp only [oneThing_ref]
  refine wpAny_holding (wpAny_bind (wpAny_cRoomFor (Nat.lt_of_succ_lt hu) ?_))
  refine wpAny_bind (I.type.here (wpAny_bind (hb.here ?_)))
  split
  · rename_i q
    have e : PySem.W.subIn K tb (.ref C) = some false := by
      rcases Bool.or_eq_true_iff.mp hn with e | e
      · rw [beq_iff_eq.mp e] at q; simp at q
      · exact beq_iff_eq.mp e
    refine wpAny_bind ((PySem.W.looks_subIn X e).here ?_)
    simp only [Bool.false_eq_true, if_false]
    refine wpAny_bind (wpAny_mono one (fun r s' z => ?_) fun _ _ e => e)
    obtain ⟨v, rfl, hq⟩ := z
    exact wpAny_pure hq
  · refine wpAny_bind (wpAny_pure ?_)
    simp only [Bool.false_eq_true, if_false]
    refine wpAny_bind (wpAny_mono one (fun r s' z => ?_) fun _ _ e => e)
    obtain ⟨v, rfl, hq⟩ := z
    exact wpAny_pure hq
end
end ZN
/-- what an own instance of x may be compared with -/
def RTy (K : PySem.W.Frag) (c : CEnv) (x : Str) (H : Hp) (v : V) : Prop :=
  (∃ b y dy gs, v = .ref b ∧ H b = some (.ins (c.cls y) dy gs) ∧ (y = x ∨ PySem.W.subIn K (.ref (c.cls y)) (.ref (c.cls x)) = some false)) ∨ v = .non ∨ (∃ i, v = .int i) ∨ (∃ b, v = .bl b) ∨ (∃ s, v = .str s) ∨ (∃ b xs, v = .ref b ∧ SqT K H b xs) ∨ (∃ b xs, v = .ref b ∧ SqL K H b xs)
theorem RTy.own {K : PySem.W.Frag} {c : CEnv} {x : Str} {H : Hp} {b dy : Addr} {gs : List (Str × V)} (h : H b = some (.ins (c.cls x) dy gs)) : RTy K c x H (.ref b) := .inl ⟨b, x, dy, gs, rfl, h, .inl rfl⟩
theorem RTy.non {K : PySem.W.Frag} {c : CEnv} {x : Str} {H : Hp} : RTy K c x H .non := .inr (.inl rfl)
theorem RTy.int {K : PySem.W.Frag} {c : CEnv} {x : Str} {H : Hp} {i : Int} : RTy K c x H (.int i) := .inr (.inr (.inl ⟨i, rfl⟩))
theorem RTy.tup {K : PySem.W.Frag} {c : CEnv} {x : Str} {H : Hp} {b : Addr} {xs : List V} (h : SqT K H b xs) : RTy K c x H (.ref b) := .inr (.inr (.inr (.inr (.inr (.inl ⟨b, xs, rfl, h⟩)))))
theorem RTy.lst {K : PySem.W.Frag} {c : CEnv} {x : Str} {H : Hp} {b : Addr} {xs : List V} (h : SqL K H b xs) : RTy K c x H (.ref b) := .inr (.inr (.inr (.inr (.inr (.inr ⟨b, xs, rfl, h⟩)))))
section
variable {X : Cx} {c : CEnv} {k : Nat} {x : Str} {ps gs : List Str} {sp : Sp}
theorem looks_rty {pins : List (Addr × Obj)} {σ : L2.St} {H : Hp} {s : Shared} {v : V} {z : Value} (I : Inv X pins σ H s) (IF : IsF X.K c x) (r : RelV v z) (t : RTy X.K c x H v) : ∃ tb, PySem.W.Looks (model X.prog X.w) s.heap (typeOf z) tb ∧ PySem.W.notFirst X.K (c.cls x) tb = true := by
  have nf : ∀ n, ["int", "bool", "str", "NoneType", "tuple", "list", "dict"].contains n = true → PySem.W.notFirst X.K (c.cls x) (.type n) = true := fun n hn => by
    unfold PySem.W.notFirst
    rw [IF.si n hn]
    simp
  rcases t with ⟨b, y, dy, gs, rfl, hb, h⟩ | rfl | ⟨i, rfl⟩ | ⟨b, rfl⟩ | ⟨s', rfl⟩ | ⟨b, xs, rfl, h⟩ | ⟨b, xs, rfl, h⟩
  · cases r
    obtain ⟨mB, J, _⟩ := ins_get I.hok hb
    obtain ⟨od, J, _⟩ := J.look
    refine ⟨_, J.type, ?_⟩
    unfold PySem.W.notFirst
    rcases h with rfl | h
    · simp
    · rw [h]; simp
  · cases r
    exact ⟨.type "NoneType", fun A Q E s k q => wpAny_typeOf (show s.TypeIs .none "NoneType" from rfl) q, nf _ (by decide)⟩
  · obtain ⟨tk, rfl⟩ : ∃ tk, z = .int i tk := r
    exact ⟨.type "int", fun A Q E s k q => wpAny_typeOf (show s.TypeIs (.int i tk) "int" from rfl) q, nf _ (by decide)⟩
  · obtain rfl : z = .bool b := r
    exact ⟨.type "bool", fun A Q E s k q => wpAny_typeOf (show s.TypeIs (.bool b) "bool" from rfl) q, nf _ (by decide)⟩
  · obtain ⟨tk, rfl⟩ : ∃ tk, z = .str s' tk := r
    exact ⟨.type "str", fun A Q E s k q => wpAny_typeOf (show s.TypeIs (.str s' tk) "str" from rfl) q, nf _ (by decide)⟩
  · cases r
    obtain ⟨its, r, hT, _⟩ := I.tuple h
    obtain ⟨oT, hoT, hcT, _⟩ := id hT
    exact ⟨.type "tuple", fun A Q E s k q => wpAny_typeOf_ref (k _ _ hoT) (by rw [hcT]; exact q), nf _ (by decide)⟩
  · cases r
    obtain ⟨its, r, hT, _⟩ := I.list h
    obtain ⟨oT, n, hoT, hcT, _⟩ := id hT
    exact ⟨.type "list", fun A Q E s k q => wpAny_typeOf_ref (k _ _ hoT) (by rw [hcT]; exact q), nf _ (by decide)⟩
/-- == of an own instance and anything -/
def uEqA (K : PySem.W.Frag) (c : CEnv) (x : Str) (sp : Sp) : R2 := fun u v H Q => ∃ a dx fs, u = .ref a ∧ H a = some (.ins (c.cls x) dx fs) ∧ RTy K c x H v ∧ sp [.ref a, v] H (fun z H' => ∃ k, z = .bl k ∧ Q (.bl k) H') E0
def uNeA (K : PySem.W.Frag) (c : CEnv) (x : Str) (sp : Sp) : R2 := fun u v H Q => ∃ a dx fs, u = .ref a ∧ H a = some (.ins (c.cls x) dx fs) ∧ RTy K c x H v ∧ sp [.ref a, v] H (fun z H' => ∃ k, z = .bl k ∧ Q (.bl (!k)) H') E0
theorem op_eqA (CF : ClsF X.K X.mg c x gs) (IF : IsF X.K c x) (M : Mth X.prog X.w X.K X.mg X.base k (c.cls x) "__eq__" ps sp) (hr : Room k X.A) : OpR X (compareOp .Eq) (uEqA X.K c x sp) := by
  intro pins s σ H u v y z Q I rx ry hq
  obtain ⟨f, fd, hM, hb, F⟩ := M.ex
  obtain ⟨a, dx, fs, rfl, ha, ht, q⟩ := hq
  cases rx
  obtain ⟨tb, LT, hn⟩ := looks_rty I IF ry ht
  obtain ⟨mA, J, _⟩ := ins_get I.hok ha
  obtain ⟨od, J, _⟩ := J.look
  obtain ⟨m, hF⟩ := I.fr
  show wpAny (model X.prog X.w) X.A (richCompare .Eq (.ref a) z) (EP X pins σ Q) X.xe s
  refine PySem.W.cmp_K (op := .Eq) (tb := tb) hr.units0 hF I.ok.mod.kin J LT hn hM.at_ hM.fn ?_
  have r2 : Vals [V.ref a, v] [Value.ref a, z] := .cons rfl (.cons ry .nil)
  refine thn (run_fn (Q := fun z H' => ∃ k, z = .bl k ∧ Q (.bl k) H') (E := E0) (dvs := []) F hr hb .nil pass0 I r2 (by simpa using q)) fun w s' hw => ?_
  obtain ⟨zv, H', I', rz, hq⟩ := hw
  obtain ⟨kk, ez, q'⟩ := hq
  subst ez
  have rz2 : w = Value.bool kk := rz
  subst rz2
  exact ⟨.bl kk, H', I', rfl, q'⟩
theorem z_fldH {K : PySem.W.Frag} {c : CEnv} {x f : Str} {gs : List Str} {H : Hp} {Q : VK} {p dx : Addr} {fs : List (Str × V)} {v : V} (h : H p = some (.ins (c.cls x) dx fs)) (ok : ClsOk K c x gs) (l : fs.lookup f = some v) (n : gs.contains f = true) (k : Q v H) : zFld K f (.ref p) H Q := z_fld ok h l n k
theorem z_setH {K : PySem.W.Frag} {c : CEnv} {x f : Str} {gs : List Str} {H : Hp} {p dx : Addr} {fs : List (Str × V)} {N : Hp → Prop} {y : V} (h : H p = some (.ins (c.cls x) dx fs)) (ok : ClsOk K c x gs) (n : gs.contains f = true) (l : fs.length < 1000) (k : N (upd H p (.ins (c.cls x) dx (putF f y fs)))) : zSet K f y (.ref p) H N := z_set ok h n l k
theorem run_at {X : Cx} {k : Nat} {ps : List Str} {sp : Sp} {A : Around} {f : Addr} {fd : FuncData} {pins : List (Addr × Obj)} {σ : L2.St} {H : Hp} {s : Shared} {Q : VK} {us : List Value} {vs : List V} (sb : Sub X k A) (F : FnOk X.prog X.w X.K X.mg X.base CX0 k f fd ps sp) (hb : Binds X.K fd ps [])
    (I : Inv X pins σ H s) (r2 : Vals vs us) (h : sp vs H Q E0) : wpAny (model X.prog X.w) A (call (.ref f) us) (EP X pins σ Q) X.xe s := by
  have hl : us.length = ps.length := by rw [← r2.length]; exact F.len _ _ _ _ h
  have e0 : Env0 X.prog X.w X.K X.mg X.base A X.stack s H := by
    have e := I.env0
    exact ⟨by rw [sb.fr]; exact e.frames, e.mod, e.bs, e.bsz, e.funs, e.frf, e.hok, e.bare⟩
  refine wpAny_call (codeAny_mono (F.run A X.stack s H ⟨us, []⟩ us vs Q E0 sb.room e0 (by
    have := hb s us I.kIn (by simpa using hl)
    simpa using this) r2 h) fun r s' hq => ?_)
  cases r with
  | error e => exact pass0 pins σ H s e s' I hq
  | ok fl =>
    cases fl with
    | ret u => exact I.after hq
    | next => exact False.elim hq
    | brk => exact False.elim hq
    | cont => exact False.elim hq
theorem op_neA (CF : ClsF X.K X.mg c x gs) (IF : IsF X.K c x) (NE : PySem.W.findIn X.K (.ref (c.cls x)) "__ne__" = some (some (.builtin "object.__ne__"))) (M : Mth X.prog X.w X.K X.mg X.base k (c.cls x) "__eq__" ps sp) (hr : Room (k + 1) X.A) : OpR X (compareOp .NotEq) (uNeA X.K c x sp) := by
  intro pins s σ H u v y z Q I rx ry hq
  obtain ⟨f, fd, hM, hb, F⟩ := M.ex
  obtain ⟨a, dx, fs, rfl, ha, ht, q⟩ := hq
  cases rx
  obtain ⟨tb, LT, hn⟩ := looks_rty I IF ry ht
  obtain ⟨mA, J, _⟩ := ins_get I.hok ha
  obtain ⟨od, J, _⟩ := J.look
  obtain ⟨m, hF⟩ := I.fr
  show wpAny (model X.prog X.w) X.A (richCompare .NotEq (.ref a) z) (EP X pins σ Q) X.xe s
  refine ZN.ne_K (tb := tb) (by have := hr.un; omega) hF I.ok.mod.kin J LT hn NE CF.ok.hm hM.at_ hM.fn ?_
  have r2 : Vals [V.ref a, v] [Value.ref a, z] := .cons rfl (.cons ry .nil)
  refine wpAny_mono (run_at (A := X.A.in1) (Q := fun z H' => ∃ k, z = .bl k ∧ Q (.bl (!k)) H') ⟨hr.in1, rfl⟩ F hb I r2 q) (fun w s' hw => ?_) fun _ _ e => e
  obtain ⟨zv, H', I', rz, hq⟩ := hw
  obtain ⟨kk, ez, q'⟩ := hq
  subst ez
  have rz2 : w = Value.bool kk := rz
  subst rz2
  exact ⟨kk, rfl, .bl (!kk), H', I', rfl, q'⟩
end

local macro_rules | `(tactic| walk_at "z") => `(tactic| with_reducible first
  | ((show zFld _ _ _ _ _); refine z_fldH (by walk_at "lk") (by assumption) (by with_unfolding_all rfl) (by with_unfolding_all rfl) ?_)
  | ((show zSet _ _ _ _ _ _); refine z_setH (by walk_at "lk") (by assumption) (by with_unfolding_all rfl) (by with_unfolding_all exact of_decide_eq_true rfl) ?_))

/-! ### str of an integer or a text -/
def uStr : List V → Hp → VK → Prop := fun vs H Q => match vs with
  | [.int i] => i.natAbs.log2 < 1920 ∧ Q (.str (toString i)) H
  | [.str x] => Q (.str x) H
  | _ => False
theorem call_uStr {X : Cx} : CallR X (.type "str") uStr := by
  intro pins s σ H vs us Q I r h
  rcases vs with _ | ⟨x, _ | ⟨y, t⟩⟩
  · exact h.elim
  · cases x <;> first | exact h.elim | skip
    · exact call_str_int pins s σ H _ _ Q I r ⟨_, rfl, h⟩
    · exact SkE.call_str_str pins s σ H _ _ Q I r ⟨_, rfl, h⟩
  · cases x <;> exact h.elim
theorem z_strI {i : Int} {H : Hp} {Q : VK} (h : -1000000 ≤ i ∧ i ≤ 1000000) (k : Q (.str (toString i)) H) : uStr [.int i] H Q := by
  refine ⟨?_, k⟩
  rcases Nat.eq_zero_or_pos i.natAbs with z | z
  · rw [z]; decide
  · have : i.natAbs < 2 ^ 1920 := Nat.lt_of_le_of_lt (show i.natAbs ≤ 1000000 by omega) (Nat.lt_of_lt_of_le (show 1000000 < 2 ^ 20 by decide) (Nat.pow_le_pow_right (by decide) (by decide)))
    exact (Nat.log2_lt (by omega)).mpr this

/-! ### the heap without some of its places -/
open Classical in
noncomputable def hid (H : Hp) (ps : List Addr) : Hp := fun a => if a ∈ ps then none else H a
/-- each of these places is taken -/
def Occ (H : Hp) (ps : List Addr) : Prop := ∀ p ∈ ps, ∃ o, H p = some o
section
variable {K : PySem.W.Frag} {H H' : Hp} {p q : Addr} {o : HO} {ps qs : List Addr}
theorem hid_out {a : Addr} (h : a ∉ ps) : hid H ps a = H a := by unfold hid; rw [if_neg h]
theorem hid_in {a : Addr} (h : a ∈ ps) : hid H ps a = none := by unfold hid; rw [if_pos h]
theorem hid_nil : hid H [] = H := by funext a; exact hid_out (fun z => by cases z)
theorem hid_sub (h : ∀ a ∈ ps, a ∈ qs) : Same (hid H qs) (hid H ps) := fun a o e => by
  by_cases c : a ∈ qs
  · rw [hid_in c] at e; cases e
  · rw [hid_out c] at e; rw [hid_out fun z => c (h a z)]; exact e
theorem hid_le : Same (hid H ps) H := fun a o e => by
  by_cases c : a ∈ ps
  · rw [hid_in c] at e; cases e
  · rw [hid_out c] at e; exact e
theorem hid_same (s : Same H H') : Same (hid H ps) (hid H' ps) := fun a o e => by
  by_cases c : a ∈ ps
  · rw [hid_in c] at e; cases e
  · rw [hid_out c] at e ⊢; exact s a o e
theorem hid_lk {a : Addr} (h : a ∉ ps) (e : H a = some o) : hid H ps a = some o := by rw [hid_out h]; exact e
theorem hid_put (h : p ∈ ps) : hid (upd H p o) ps = hid H ps := by
  funext a
  by_cases c : a ∈ ps
  · rw [hid_in c, hid_in c]
  · rw [hid_out c, hid_out c]; exact upd_ne (fun z => c (z ▸ h))
theorem hid_free (h : H p = none) : Same (hid H ps) (hid H (p :: ps)) := fun a o e => by
  by_cases c : a ∈ ps
  · rw [hid_in c] at e; cases e
  · rw [hid_out c] at e
    refine hid_lk (fun z => ?_) e
    rcases List.mem_cons.mp z with z | z
    · subst z; rw [h] at e; cases e
    · exact c z
theorem hid_new (h : H q = none) : Same (hid H ps) (hid (upd H q o) ps) := hid_same (Same.new h (Same.refl H))
/-- what stood before p was made stays when p is hidden -/
theorem hid_of (h : H p = none) (s : Same (hid H ps) (hid H' ps)) : Same (hid H ps) (hid H' (p :: ps)) := fun a u e => by
  by_cases c : a ∈ ps
  · rw [hid_in c] at e; cases e
  · have e' := e
    rw [hid_out c] at e'
    have x := s a u e
    rw [hid_out c] at x
    refine hid_lk (fun z => ?_) x
    rcases List.mem_cons.mp z with z | z
    · subst z; rw [h] at e'; cases e'
    · exact c z
theorem hid_ofS (h : H p = none) (s : Same H H') : Same (hid H ps) (hid H' (p :: ps)) := hid_of h (hid_same s)
theorem hidS1 (h : H p = none) (s : Same H H') : Same H (hid H' [p]) := fun a u e => hid_lk (fun z => by rw [List.mem_singleton] at z; subst z; rw [h] at e; cases e) (s a u e)
theorem Occ.nil : Occ H [] := fun _ h => by cases h
theorem Occ.cons (h : H p = some o) (t : Occ H ps) : Occ H (p :: ps) := fun a ha => by
  rcases List.mem_cons.mp ha with rfl | ha
  · exact ⟨o, h⟩
  · exact t a ha
theorem Occ.same (s : Same H H') (h : Occ H ps) : Occ H' ps := fun a ha => (h a ha).imp fun _ e => s _ _ e
theorem Occ.put (h : Occ H ps) : Occ (upd H p o) ps := fun a ha => by
  by_cases c : a = p
  · subst c; exact ⟨o, upd_same⟩
  · obtain ⟨u, e⟩ := h a ha; exact ⟨u, lk_ne c e⟩
theorem Occ.no (h : Occ H ps) (hq : H q = none) : q ∉ ps := fun z => by obtain ⟨u, e⟩ := h q z; rw [hq] at e; cases e
end

/-! P: values as plain data, instances too; readings without a heap -/
inductive Da where
  | non | st | bl (b : Bool) | int (i : Int) | str (x : Str) | ty (n : String)
  | tup (l : List Da) | lst (l : List Da) | ins (x : Str) (ks : List Str) (l : List Da)
instance : Inhabited Da := ⟨.non⟩
mutual
inductive Rp (K : PySem.W.Frag) (c : CEnv) (S : Option Addr) (G : Hp) : V → Da → Prop
  | non : Rp K c S G .non .non
  | st {a : Addr} : S = some a → Rp K c S G (.ref a) .st
  | bl (b : Bool) : Rp K c S G (.bl b) (.bl b)
  | int (i : Int) : Rp K c S G (.int i) (.int i)
  | str (x : Str) : Rp K c S G (.str x) (.str x)
  | ty (n : String) : Rp K c S G (.ty n) (.ty n)
  | tup {a : Addr} {xs : List V} {ds : List Da} : SqT K G a xs → RpA K c S G xs ds → Rp K c S G (.ref a) (.tup ds)
  | lst {a : Addr} {xs : List V} {ds : List Da} : G a = some (.lst xs) → RpA K c S G xs ds → Rp K c S G (.ref a) (.lst ds)
  | ins {a dx : Addr} {x : Str} {ks : List Str} {xs : List V} {ds : List Da} : ClsOk K c x ks → G a = some (.ins (c.cls x) dx (ks.zip xs)) → ds.length = ks.length → RpA K c S G xs ds → Rp K c S G (.ref a) (.ins x ks ds)
inductive RpA (K : PySem.W.Frag) (c : CEnv) (S : Option Addr) (G : Hp) : List V → List Da → Prop
  | nil : RpA K c S G [] []
  | cons {v : V} {vs : List V} {d : Da} {ds : List Da} : Rp K c S G v d → RpA K c S G vs ds → RpA K c S G (v :: vs) (d :: ds)
end
section
variable {K : PySem.W.Frag} {c : CEnv} {S : Option Addr} {G G' : Hp} {v : V} {d : Da} {vs : List V} {ds : List Da}
mutual
theorem Rp.same (s : Same G G') : ∀ (d : Da) (v : V), Rp K c S G v d → Rp K c S G' v d
  | .non, _, h => by cases h; exact .non
  | .st, _, h => by cases h with | st e => exact .st e
  | .bl b, _, h => by cases h; exact .bl b
  | .int i, _, h => by cases h; exact .int i
  | .str x, _, h => by cases h; exact .str x
  | .ty n, _, h => by cases h; exact .ty n
  | .tup ds, _, h => by cases h with | tup hs ha => exact .tup (Same.sqT s hs) (RpA.same s ds _ ha)
  | .lst ds, _, h => by cases h with | lst hs ha => exact .lst (s _ _ hs) (RpA.same s ds _ ha)
  | .ins x ks ds, _, h => by cases h with | ins ok hs hl ha => exact .ins ok (s _ _ hs) hl (RpA.same s ds _ ha)
theorem RpA.same (s : Same G G') : ∀ (ds : List Da) (vs : List V), RpA K c S G vs ds → RpA K c S G' vs ds
  | [], _, h => by cases h; exact .nil
  | d :: ds, _, h => by cases h with | cons h1 h2 => exact .cons (Rp.same s d _ h1) (RpA.same s ds _ h2)
end
theorem rpS (s : Same G G') (h : Rp K c S G v d) : Rp K c S G' v d := Rp.same s d v h
theorem rpsS (s : Same G G') (h : RpA K c S G vs ds) : RpA K c S G' vs ds := RpA.same s ds vs h
theorem rpT (h : Rp K c S G v (.tup ds)) : ∃ a xs, v = .ref a ∧ SqT K G a xs ∧ RpA K c S G xs ds := by
  cases h with
  | tup hs ha => exact ⟨_, _, rfl, hs, ha⟩
theorem rpL (h : Rp K c S G v (.lst ds)) : ∃ a xs, v = .ref a ∧ G a = some (.lst xs) ∧ RpA K c S G xs ds := by
  cases h with
  | lst hs ha => exact ⟨_, _, rfl, hs, ha⟩
theorem rpO {x : Str} {ks : List Str} (h : Rp K c S G v (.ins x ks ds)) : ∃ a dx xs, v = .ref a ∧ ClsOk K c x ks ∧ G a = some (.ins (c.cls x) dx (ks.zip xs)) ∧ ds.length = ks.length ∧ RpA K c S G xs ds := by
  cases h with
  | ins ok hs hl ha => exact ⟨_, _, _, rfl, ok, hs, hl, ha⟩
theorem rpN (h : Rp K c S G v .non) : v = .non := by cases h; rfl
theorem rpI {i : Int} (h : Rp K c S G v (.int i)) : v = .int i := by cases h; rfl
theorem rpX {x : Str} (h : Rp K c S G v (.str x)) : v = .str x := by cases h; rfl
theorem rpB {b : Bool} (h : Rp K c S G v (.bl b)) : v = .bl b := by cases h; rfl
theorem rpY {n : String} (h : Rp K c S G v (.ty n)) : v = .ty n := by cases h; rfl
theorem rpSt (h : Rp K c S G v .st) : ∃ a, S = some a ∧ v = .ref a := by cases h with | st e => exact ⟨_, e, rfl⟩
theorem rps0 (h : RpA K c S G vs []) : vs = [] := by cases h; rfl
theorem rpsC (h : RpA K c S G vs (d :: ds)) : ∃ v ws, vs = v :: ws ∧ Rp K c S G v d ∧ RpA K c S G ws ds := by
  cases h with
  | cons h1 h2 => exact ⟨_, _, rfl, h1, h2⟩
theorem rpsC' {w : V} {ws : List V} (h : RpA K c S G (w :: ws) ds) : ∃ d es, ds = d :: es ∧ Rp K c S G w d ∧ RpA K c S G ws es := by
  cases h with
  | cons h1 h2 => exact ⟨_, _, rfl, h1, h2⟩
theorem rpsLen : ∀ {ds : List Da} {vs : List V}, RpA K c S G vs ds → vs.length = ds.length
  | [], _, h => by rw [rps0 h]; rfl
  | d :: ds, _, h => by obtain ⟨v, ws, rfl, _, h2⟩ := rpsC h; simp [rpsLen h2]
theorem rpsGet : ∀ {ds : List Da} {vs : List V} {i : Nat}, RpA K c S G vs ds → ds[i]? = some d → ∃ v, vs[i]? = some v ∧ Rp K c S G v d
  | [], _, _, _, h => by cases h
  | e :: ds, _, i, h, hi => by
    obtain ⟨v, ws, rfl, h1, h2⟩ := rpsC h
    cases i with
    | zero => cases hi; exact ⟨v, rfl, h1⟩
    | succ i => obtain ⟨u, a, b⟩ := rpsGet h2 (by simpa using hi); exact ⟨u, a, b⟩
theorem rpsGetV : ∀ {ds : List Da} {vs : List V} {i : Nat}, RpA K c S G vs ds → vs[i]? = some v → ∃ d, ds[i]? = some d ∧ Rp K c S G v d := by
  intro ds vs i h hi
  have hl := rpsLen h
  have := (List.getElem?_eq_some_iff.mp hi).1
  have e := List.getElem?_eq_getElem (show i < ds.length by omega)
  obtain ⟨u, e2, r⟩ := rpsGet h e
  rw [hi] at e2
  cases e2
  exact ⟨_, e, r⟩
theorem rpsApp : ∀ {ds : List Da} {vs : List V}, RpA K c S G vs ds → ∀ {es : List Da} {ws : List V}, RpA K c S G ws es → RpA K c S G (vs ++ ws) (ds ++ es)
  | [], _, h, _, _, h1 => by rw [rps0 h]; exact h1
  | _ :: _, _, h, _, _, h1 => by obtain ⟨u, ws, rfl, a, b⟩ := rpsC h; exact .cons a (rpsApp b h1)
theorem rpsOne (h : Rp K c S G v d) : RpA K c S G [v] [d] := .cons h .nil
theorem rpsTake : ∀ {ds : List Da} {vs : List V} (k : Nat), RpA K c S G vs ds → RpA K c S G (vs.take k) (ds.take k)
  | [], _, k, h => by rw [rps0 h, List.take_nil, List.take_nil]; exact .nil
  | _ :: _, _, 0, _ => .nil
  | _ :: _, _, k + 1, h => by obtain ⟨u, ws, rfl, a, b⟩ := rpsC h; exact .cons a (rpsTake k b)
theorem rpsDrop : ∀ {ds : List Da} {vs : List V} (k : Nat), RpA K c S G vs ds → RpA K c S G (vs.drop k) (ds.drop k)
  | [], _, k, h => by rw [rps0 h, List.drop_nil, List.drop_nil]; exact .nil
  | _ :: _, _, 0, h => h
  | _ :: _, _, k + 1, h => by obtain ⟨u, ws, rfl, a, b⟩ := rpsC h; exact rpsDrop k b
theorem rpsSet : ∀ {ds : List Da} {vs : List V} (k : Nat), RpA K c S G vs ds → Rp K c S G v d → RpA K c S G (vs.set k v) (ds.set k d)
  | [], _, k, h, _ => by rw [rps0 h]; exact .nil
  | _ :: _, _, 0, h, r => by obtain ⟨u, ws, rfl, a, b⟩ := rpsC h; exact .cons r b
  | _ :: _, _, k + 1, h, r => by obtain ⟨u, ws, rfl, a, b⟩ := rpsC h; exact .cons a (rpsSet k b r)
theorem rpsI : ∀ {xs : List Int} {vs : List V}, RpA K c S G vs (xs.map Da.int) → vs = xs.map V.int
  | [], _, h => rps0 h
  | x :: xs, _, h => by obtain ⟨v, ws, rfl, a, b⟩ := rpsC h; rw [rpI a, rpsI b]; rfl
theorem rpsX : ∀ {xs : List Str} {vs : List V}, RpA K c S G vs (xs.map Da.str) → vs = xs.map V.str
  | [], _, h => rps0 h
  | x :: xs, _, h => by obtain ⟨v, ws, rfl, a, b⟩ := rpsC h; rw [rpX a, rpsX b]; rfl
theorem rpsI' : ∀ {xs : List Int}, RpA K c S G (xs.map V.int) (xs.map Da.int)
  | [] => .nil
  | x :: xs => .cons (.int x) rpsI'
theorem rpsX' : ∀ {xs : List Str}, RpA K c S G (xs.map V.str) (xs.map Da.str)
  | [] => .nil
  | x :: xs => .cons (.str x) rpsX'
end
/-! ### the environment -/
inductive Pv where
  | d (x : Da) | own (l : List Da) | obj (x : Str) (gs ks : List Str) (l : List Da)
abbrev PEnv := List (Option Pv)
structure Pw where
  S : Option (Addr × Addr)
  O : List Addr
  M : List Addr
  self : Option Addr := none
abbrev Pw.st (w : Pw) : Option Addr := w.S.map (·.1)
abbrev Ow := List (Nat × Addr)
abbrev hl (w : Pw) (ow : Ow) : List Addr := ow.map (·.2) ++ w.O
noncomputable abbrev dh (w : Pw) (ow : Ow) (H : Hp) : Hp := hid H (hl w ow)
def SlotOk (K : PySem.W.Frag) (c : CEnv) (w : Pw) (ow : Ow) (H : Hp) (σ : L2.St) (i : Nat) : Pv → Prop
  | .d x => ∃ v, σ[i]? = some (some v) ∧ Rp K c w.st (dh w ow H) v x
  | .own l => ∃ a vs, (i, a) ∈ ow ∧ σ[i]? = some (some (.ref a)) ∧ H a = some (.lst vs) ∧ RpA K c w.st (dh w ow H) vs l
  | .obj x gs ks l => ∃ a dx vs, (i, a) ∈ ow ∧ σ[i]? = some (some (.ref a)) ∧ (ClsOk K c x gs ∧ w.self = some a) ∧ H a = some (.ins (c.cls x) dx (ks.zip vs)) ∧ l.length = ks.length ∧ RpA K c w.st (dh w ow H) vs l
/-- slots and heap as the environment says; H0: the heap at the def's start; B: what stays -/
structure Rel (K : PySem.W.Frag) (c : CEnv) (w : Pw) (H0 B : Hp) (ow : Ow) (H : Hp) (σ : L2.St) (ρ : PEnv) : Prop where
  occ : Occ H (hl w ow)
  dr : ∀ st L, w.S = some (st, L) → Draw H st L ∧ st ∈ w.O ∧ st ∈ w.M
  nd : ∀ p ∈ ow, (∀ st L, w.S = some (st, L) → p.2 ≠ st ∧ p.2 ≠ L) ∧ p.2 ∉ w.O
  inj : ∀ p ∈ ow, ∀ q ∈ ow, p.2 = q.2 → p = q
  fr : ∀ a o, a ∉ w.M → H0 a = some o → H a = some o
  fr2 : ∀ p ∈ ow, H0 p.2 = none ∨ p.2 ∈ w.M
  len : σ.length = ρ.length
  sl : ∀ i x, ρ[i]? = some (some x) → SlotOk K c w ow H σ i x
  bs : Same B (dh w ow H)
/-- grown, but the state of the draws -/
def Ex (S : Option (Addr × Addr)) (H H' : Hp) : Prop := (∀ a o, (∀ st L, S = some (st, L) → a ≠ st) → H a = some o → H' a = some o) ∧ ∀ st L, S = some (st, L) → Draw H' st L
theorem Ex.of {S : Option (Addr × Addr)} {H H' : Hp} (s : Same H H') (d : ∀ st L, S = some (st, L) → Draw H st L) : Ex S H H' := ⟨fun a o _ e => s a o e, fun st L e => (d st L e).same s⟩
theorem Ex.trans {S : Option (Addr × Addr)} {H H1 H2 : Hp} (x : Ex S H H1) (y : Ex S H1 H2) : Ex S H H2 := ⟨fun a o n e => y.1 a o n (x.1 a o n e), y.2⟩
theorem Draw.occ {H : Hp} {st L : Addr} (d : Draw H st L) : ∃ o, H st = some o := by obtain ⟨_, _, _, e, _⟩ := d.ex; exact ⟨_, e⟩
theorem Draw.occL {H : Hp} {st L : Addr} (d : Draw H st L) : ∃ o, H L = some o := by obtain ⟨_, _, _, _, e, _⟩ := d.ex; exact ⟨_, e⟩
section
variable {K : PySem.W.Frag} {c : CEnv} {w : Pw} {H0 B H H' : Hp} {ow : Ow} {σ : L2.St} {ρ : PEnv} {v : V} {d : Da}
theorem Occ.ex {S : Option (Addr × Addr)} {ps : List Addr} (x : Ex S H H') (h : Occ H ps) : Occ H' ps := fun a ha => by
  by_cases e : ∃ st L, S = some (st, L) ∧ a = st
  · obtain ⟨st, L, e, rfl⟩ := e
    exact (x.2 _ _ e).occ
  · obtain ⟨o, ho⟩ := h a ha
    exact ⟨o, x.1 a o (fun st L h z => e ⟨st, L, h, z⟩) ho⟩
theorem Ex.hid {S : Option (Addr × Addr)} {ps : List Addr} (x : Ex S H H') (hs : ∀ st L, S = some (st, L) → st ∈ ps) : Same (hid H ps) (hid H' ps) := fun a o e => by
  by_cases m : a ∈ ps
  · rw [hid_in m] at e; cases e
  · rw [hid_out m] at e ⊢
    exact x.1 a o (fun st L h z => m (z ▸ hs st L h)) e
theorem Rel.stO (r : Rel K c w H0 B ow H σ ρ) : ∀ st L, w.S = some (st, L) → st ∈ hl w ow := fun st L e => List.mem_append_right _ (r.dr st L e).2.1
theorem Ex.dh (x : Ex w.S H H') (r : Rel K c w H0 B ow H σ ρ) : Same (dh w ow H) (dh w ow H') := x.hid r.stO
theorem Rel.notSt (r : Rel K c w H0 B ow H σ ρ) {p : Nat × Addr} (h : p ∈ ow) : ∀ st L, w.S = some (st, L) → p.2 ≠ st := fun st L e => ((r.nd p h).1 st L e).1
theorem SlotOk.imp {x : Pv} {i : Nat} (s : Same (dh w ow H) (dh w ow H')) (k : ∀ p ∈ ow, ∀ o, H p.2 = some o → H' p.2 = some o) (h : SlotOk K c w ow H σ i x) : SlotOk K c w ow H' σ i x := by
  cases x with
  | d x => obtain ⟨v, e, r⟩ := h; exact ⟨v, e, rpS s r⟩
  | own l => obtain ⟨a, vs, m, e, eh, r⟩ := h; exact ⟨a, vs, m, e, k _ m _ eh, rpsS s r⟩
  | obj x gs ks l => obtain ⟨a, dx, vs, m, e, ok, eh, hl, r⟩ := h; exact ⟨a, dx, vs, m, e, ok, k _ m _ eh, hl, rpsS s r⟩
theorem Rel.ex (r : Rel K c w H0 B ow H σ ρ) (x : Ex w.S H H') : Rel K c w H0 B ow H' σ ρ := by
  have s := x.dh r
  refine ⟨r.occ.ex x, fun st L e => ⟨x.2 st L e, (r.dr st L e).2⟩, r.nd, r.inj, fun a o n e => ?_, r.fr2, r.len, fun i y e => (r.sl i y e).imp s (fun p hp o e => x.1 _ _ (r.notSt hp) e), Same.trans r.bs s⟩
  exact x.1 a o (fun st L h z => n (z ▸ (r.dr st L h).2.2)) (r.fr a o n e)
theorem Rel.exOf (r : Rel K c w H0 B ow H σ ρ) (s : Same H H') : Ex w.S H H' := Ex.of s fun st L e => (r.dr st L e).1
theorem Rel.same (r : Rel K c w H0 B ow H σ ρ) (s : Same H H') : Rel K c w H0 B ow H' σ ρ := r.ex (r.exOf s)
theorem Rel.new (r : Rel K c w H0 B ow H σ ρ) {p : Addr} {o : HO} (h : H p = none) : Rel K c w H0 B ow (upd H p o) σ ρ := r.same (Same.new h (Same.refl H))
theorem getElem?_set' {α : Type} {l : List α} {i j : Nat} {x : α} : (l.set i x)[j]? = if i = j then (if j < l.length then some x else none) else l[j]? := by
  by_cases h : i = j
  · subst h; rw [if_pos rfl]
    by_cases h2 : i < l.length
    · rw [if_pos h2, List.getElem?_set_self h2]
    · rw [if_neg h2]; exact List.getElem?_eq_none (by rw [List.length_set]; omega)
  · rw [if_neg h, List.getElem?_set_ne h]
theorem SlotOk.other {x : Pv} {i j : Nat} {y : Option V} (h : SlotOk K c w ow H σ i x) (ne : j ≠ i) : SlotOk K c w ow H (σ.set j y) i x := by
  cases x with
  | d x => obtain ⟨v, e, r⟩ := h; exact ⟨v, by rw [List.getElem?_set_ne ne]; exact e, r⟩
  | own l => obtain ⟨a, vs, m, e, eh, r⟩ := h; exact ⟨a, vs, m, by rw [List.getElem?_set_ne ne]; exact e, eh, r⟩
  | obj x gs ks l => obtain ⟨a, dx, vs, m, e, r⟩ := h; exact ⟨a, dx, vs, m, by rw [List.getElem?_set_ne ne]; exact e, r⟩
/-- a slot takes data -/
theorem Rel.set (r : Rel K c w H0 B ow H σ ρ) (i : Nat) (h : Rp K c w.st (dh w ow H) v d) : Rel K c w H0 B ow H (σ.set i (some v)) (ρ.set i (some (.d d))) := by
  refine ⟨r.occ, r.dr, r.nd, r.inj, r.fr, r.fr2, by rw [List.length_set, List.length_set]; exact r.len, fun j x e => ?_, r.bs⟩
  rw [getElem?_set'] at e
  by_cases q : i = j
  · subst q
    rw [if_pos rfl] at e
    by_cases l : i < ρ.length
    · rw [if_pos l] at e
      cases e
      exact ⟨v, by rw [List.getElem?_set_self (by rw [r.len]; exact l)], h⟩
    · rw [if_neg l] at e; cases e
  · rw [if_neg q] at e
    exact (r.sl j x e).other q
/-- a slot is forgotten -/
theorem Rel.drop (r : Rel K c w H0 B ow H σ ρ) (i : Nat) (y : Option V) : Rel K c w H0 B ow H (σ.set i y) (ρ.set i none) := by
  refine ⟨r.occ, r.dr, r.nd, r.inj, r.fr, r.fr2, by rw [List.length_set, List.length_set]; exact r.len, fun j x e => ?_, r.bs⟩
  rw [getElem?_set'] at e
  by_cases q : i = j
  · subst q
    rw [if_pos rfl] at e
    split at e <;> cases e
  · rw [if_neg q] at e
    exact (r.sl j x e).other q
theorem RpA.hide {S : Option Addr} {vs : List V} {l : List Da} {p : Addr} {ps : List Addr} (h : H p = none) (r : RpA K c S (hid H ps) vs l) (s : Same H H') : RpA K c S (hid H' (p :: ps)) vs l := rpsS (hid_ofS h s) r
/-- a fresh place is hidden: its index says nothing -/
theorem Rel.hide (r : Rel K c w H0 B ow H σ ρ) {p : Addr} {o : HO} {j : Nat} (h : H p = none) : Rel K c w H0 B ((j, p) :: ow) (upd H p o) σ ρ := by
  have s : Same H (upd H p o) := Same.new h (Same.refl H)
  have sd : Same (dh w ow H) (dh w ((j, p) :: ow) (upd H p o)) := hid_ofS h s
  have fresh : ∀ q ∈ ow, q.2 ≠ p := fun q hq z => by
    obtain ⟨u, e⟩ := r.occ q.2 (List.mem_append_left _ (List.mem_map_of_mem hq))
    rw [z, h] at e; cases e
  refine ⟨Occ.cons (o := o) upd_same (r.occ.same s), fun st L e => ⟨(r.dr st L e).1.same s, (r.dr st L e).2⟩, ?_, ?_, fun a o' n e => s _ _ (r.fr a o' n e), ?_, r.len, fun i x e => ?_, Same.trans r.bs sd⟩
  · intro q hq
    rcases List.mem_cons.mp hq with rfl | hq
    · refine ⟨fun st L e => ⟨fun z => ?_, fun z => ?_⟩, fun m => ?_⟩
      · subst z; obtain ⟨o', e'⟩ := (r.dr _ L e).1.occ; rw [h] at e'; cases e'
      · subst z; obtain ⟨o', e'⟩ := (r.dr st _ e).1.occL; rw [h] at e'; cases e'
      · obtain ⟨o', e'⟩ := r.occ p (List.mem_append_right _ m); rw [h] at e'; cases e'
    · exact r.nd q hq
  · intro q hq q' hq' e
    rcases List.mem_cons.mp hq with rfl | hq
    · rcases List.mem_cons.mp hq' with rfl | hq'
      · rfl
      · exact absurd e.symm (fresh q' hq')
    · rcases List.mem_cons.mp hq' with rfl | hq'
      · exact absurd e (fresh q hq)
      · exact r.inj q hq q' hq' e
  · intro q hq
    rcases List.mem_cons.mp hq with rfl | hq
    · cases e : H0 p with
      | none => exact .inl rfl
      | some u =>
        by_cases m : p ∈ w.M
        · exact .inr m
        · have := r.fr p u m e; rw [h] at this; cases this
    · exact r.fr2 q hq
  · have k := r.sl i x e
    cases x with
    | d x => obtain ⟨v, e, rr⟩ := k; exact ⟨v, e, rpS sd rr⟩
    | own l => obtain ⟨a, vs, m, e, eh, rr⟩ := k; exact ⟨a, vs, List.mem_cons_of_mem _ m, e, s _ _ eh, rpsS sd rr⟩
    | obj x gs ks l => obtain ⟨a, dx, vs, m, e, ok, eh, hl, rr⟩ := k; exact ⟨a, dx, vs, List.mem_cons_of_mem _ m, e, ok, s _ _ eh, hl, rpsS sd rr⟩
/-- what is written at a hidden place -/
theorem Rel.write (r : Rel K c w H0 B ow H σ ρ) {j : Nat} {p : Addr} {o : HO} (hm : (j, p) ∈ ow) (sl : ∀ i x, ρ[i]? = some (some x) → (i, p) ∈ ow → SlotOk K c w ow (upd H p o) σ i x) : Rel K c w H0 B ow (upd H p o) σ ρ := by
  have hin : p ∈ hl w ow := List.mem_append_left _ (List.mem_map_of_mem (f := (·.2)) hm)
  have ed : dh w ow (upd H p o) = dh w ow H := hid_put hin
  refine ⟨r.occ.put, fun st L e => ⟨Draw.put ((r.nd _ hm).1 st L e).1 ((r.nd _ hm).1 st L e).2 (r.dr st L e).1, (r.dr st L e).2⟩, r.nd, r.inj, fun a u n e => ?_, r.fr2, r.len, fun i x e => ?_, by rw [ed]; exact r.bs⟩
  · have x := r.fr a u n e
    refine lk_ne (fun z => ?_) x
    subst z
    rcases r.fr2 _ hm with z | z
    · have z : H0 a = none := z
      rw [e] at z; cases z
    · exact n z
  · by_cases q : (i, p) ∈ ow
    · exact sl i x e q
    · have k := r.sl i x e
      have ne : ∀ a, (i, a) ∈ ow → a ≠ p := fun a m z => q (z ▸ m)
      cases x with
      | d x => obtain ⟨v, e, rr⟩ := k; exact ⟨v, e, by rw [ed]; exact rr⟩
      | own l => obtain ⟨a, vs, m, e, eh, rr⟩ := k; exact ⟨a, vs, m, e, lk_ne (ne a m) eh, by rw [ed]; exact rr⟩
      | obj x gs ks l => obtain ⟨a, dx, vs, m, e, ok, eh, hl, rr⟩ := k; exact ⟨a, dx, vs, m, e, ok, lk_ne (ne a m) eh, hl, by rw [ed]; exact rr⟩
end

/-! ### readings without a heap, and what carries them over -/
abbrev WP := Str → PEnv → Prop
structure PD where
  nx : PEnv → Prop
  rt : Da → Prop
  bk : PEnv → Prop := fun _ => False
  ct : PEnv → Prop := fun _ => False
abbrev PEx := PEnv → (Da → Prop) → Prop
abbrev PTe := PEnv → (Bool → Prop) → Prop
abbrev PAr := PEnv → (List Da → Prop) → Prop
abbrev PSt := PD → PEnv → Prop
abbrev PTg := Da → PEnv → (PEnv → Prop) → Prop
abbrev PR2 := Da → Da → (Da → Prop) → Prop
abbrev PR1 := Da → (Da → Prop) → Prop
abbrev PRl := List Da → (Da → Prop) → Prop
abbrev PSp := List Da → (Da → Prop) → (Str → Prop) → Prop
abbrev PSi := List Da → (List Da → Prop) → (Str → Prop) → Prop
structure Cn where
  K : PySem.W.Frag
  c : CEnv
  W : WX
  Wp : WP
section
variable (N : Cn)
def AdW (w : Pw) (H0 B : Hp) : Prop := ∀ x ow H σ ρ, Rel N.K N.c w H0 B ow H σ ρ → N.Wp x ρ → N.W (.ref (N.c.cls x)) none σ H
def Post (w : Pw) (H0 B : Hp) (ow : Ow) (H : Hp) (σ : L2.St) (ρ : PEnv) (Q' : Da → Prop) (Q : VK) : Prop := ∀ v d H', Rel N.K N.c w H0 B ow H' σ ρ → Ex w.S H H' → Rp N.K N.c w.st (dh w ow H') v d → Q' d → Q v H'
def PostT (w : Pw) (H0 B : Hp) (ow : Ow) (H : Hp) (σ : L2.St) (ρ : PEnv) (Q' : Bool → Prop) (Q : Bool → Hp → Prop) : Prop := ∀ b H', Rel N.K N.c w H0 B ow H' σ ρ → Ex w.S H H' → Q' b → Q b H'
def PostA (w : Pw) (H0 B : Hp) (ow : Ow) (H : Hp) (σ : L2.St) (ρ : PEnv) (Q' : List Da → Prop) (Q : List V → Hp → Prop) : Prop := ∀ vs ds H', Rel N.K N.c w H0 B ow H' σ ρ → Ex w.S H H' → RpA N.K N.c w.st (dh w ow H') vs ds → Q' ds → Q vs H'
def SimE (t : TE) (p : PEx) : Prop := ∀ w H0 B, AdW N w H0 B → ∀ ow H σ ρ Q Q', Rel N.K N.c w H0 B ow H σ ρ → p ρ Q' → Post N w H0 B ow H σ ρ Q' Q → t σ H Q
def SimT (t : TT) (p : PTe) : Prop := ∀ w H0 B, AdW N w H0 B → ∀ ow H σ ρ Q Q', Rel N.K N.c w H0 B ow H σ ρ → p ρ Q' → PostT N w H0 B ow H σ ρ Q' Q → t σ H Q
def SimA (t : TA) (p : PAr) : Prop := ∀ w H0 B, AdW N w H0 B → ∀ ow H σ ρ Q Q', Rel N.K N.c w H0 B ow H σ ρ → p ρ Q' → PostA N w H0 B ow H σ ρ Q' Q → t σ H Q
def SimR (r : R2) (q : PR2) : Prop := ∀ w H0 B ow H σ ρ x y dx dy Q Q', Rel N.K N.c w H0 B ow H σ ρ → Rp N.K N.c w.st (dh w ow H) x dx → Rp N.K N.c w.st (dh w ow H) y dy → q dx dy Q' → Post N w H0 B ow H σ ρ Q' Q → r x y H Q
def SimU (r : V → Hp → VK → Prop) (q : PR1) : Prop := ∀ w H0 B ow H σ ρ x dx Q Q', Rel N.K N.c w H0 B ow H σ ρ → Rp N.K N.c w.st (dh w ow H) x dx → q dx Q' → Post N w H0 B ow H σ ρ Q' Q → r x H Q
def SimL (r : List V → Hp → VK → Prop) (q : PRl) : Prop := ∀ w H0 B ow H σ ρ xs ds Q Q', Rel N.K N.c w H0 B ow H σ ρ → RpA N.K N.c w.st (dh w ow H) xs ds → q ds Q' → Post N w H0 B ow H σ ρ Q' Q → r xs H Q
structure AdD (w : Pw) (H0 B : Hp) (D : Ends) (D' : PD) : Prop where
  nx : ∀ ow H σ ρ, Rel N.K N.c w H0 B ow H σ ρ → D'.nx ρ → D.nx σ H
  bk : ∀ ow H σ ρ, Rel N.K N.c w H0 B ow H σ ρ → D'.bk ρ → D.bk σ H
  ct : ∀ ow H σ ρ, Rel N.K N.c w H0 B ow H σ ρ → D'.ct ρ → D.ct σ H
  rt : ∀ ow H σ ρ v d, Rel N.K N.c w H0 B ow H σ ρ → Rp N.K N.c w.st (dh w ow H) v d → D'.rt d → D.rt v H
def SimS (t : TS) (p : PSt) : Prop := ∀ w H0 B, AdW N w H0 B → ∀ ow H σ ρ D D', AdD N w H0 B D D' → Rel N.K N.c w H0 B ow H σ ρ → p D' ρ → t D σ H
def SimG (g : TG) (sl : List Nat) (pg : PTg) : Prop := ∀ w H0 B ow H σ ρ v d Q Q', Rel N.K N.c w H0 B ow H σ ρ → Rp N.K N.c w.st (dh w ow H) v d → pg d ρ Q' → (∀ σ' ρ', Rel N.K N.c w H0 B ow H σ' ρ' → (∀ vs, (∀ i ∈ sl, i ∈ vs) → wipe σ' vs = wipe σ vs) → Q' ρ' → Q σ' H) → g v σ H Q
end
section
variable {N : Cn} {w : Pw} {H0 B H H' : Hp} {ow : Ow} {σ : L2.St} {ρ : PEnv}
theorem Rel.re {K : PySem.W.Frag} {c : CEnv} {B' : Hp} (r : Rel K c w H0 B' ow H σ ρ) (s : Same B B') : Rel K c w H0 B ow H σ ρ := ⟨r.occ, r.dr, r.nd, r.inj, r.fr, r.fr2, r.len, r.sl, Same.trans s r.bs⟩
theorem AdW.re {B' : Hp} (a : AdW N w H0 B) (s : Same B B') : AdW N w H0 B' := fun x ow H σ ρ r q => a x ow H σ ρ (r.re s) q
theorem rpsAt {K : PySem.W.Frag} {c : CEnv} {S : Option Addr} {G : Hp} {vs : List V} {ds : List Da} {i : Int} {d : Da} (h : RpA K c S G vs ds) (e : atI ds i = some d) : ∃ v, atI vs i = some v ∧ Rp K c S G v d := by
  unfold atI at e ⊢
  rw [rpsLen h]
  cases q : ixN ds.length i with
  | none => rw [q] at e; cases e
  | some j =>
    rw [q] at e
    exact rpsGet h e
theorem Post.flat {Q' : Da → Prop} {Q : VK} {v : V} {d : Da} (k : Post N w H0 B ow H σ ρ Q' Q) (r : Rel N.K N.c w H0 B ow H σ ρ) (h : Rp N.K N.c w.st (dh w ow H) v d) (q : Q' d) : Q v H := k v d H r (r.exOf (Same.refl _)) h q
/-- a new list, a new tuple -/
theorem Post.newL {Q' : Da → Prop} {Q : VK} {vs : List V} {ds : List Da} {p : Addr} (k : Post N w H0 B ow H σ ρ Q' Q) (r : Rel N.K N.c w H0 B ow H σ ρ) (h : RpA N.K N.c w.st (dh w ow H) vs ds) (q : Q' (.lst ds)) (hp : H p = none) : Q (.ref p) (upd H p (.lst vs)) :=
  k _ _ _ (r.new hp) (r.exOf (Same.new hp (Same.refl H))) (.lst (hid_lk (r.occ.no hp) upd_same) (rpsS (hid_new hp) h)) q
theorem Post.newT {Q' : Da → Prop} {Q : VK} {vs : List V} {ds : List Da} {p : Addr} (k : Post N w H0 B ow H σ ρ Q' Q) (r : Rel N.K N.c w H0 B ow H σ ρ) (h : RpA N.K N.c w.st (dh w ow H) vs ds) (q : Q' (.tup ds)) (hp : H p = none) : Q (.ref p) (upd H p (.tup vs)) :=
  k _ _ _ (r.new hp) (r.exOf (Same.new hp (Same.refl H))) (.tup (SqT.of (hid_lk (r.occ.no hp) upd_same)) (rpsS (hid_new hp) h)) q
theorem Post.then {Q' Q2 : Da → Prop} {Q : VK} (k : Post N w H0 B ow H σ ρ Q' Q) (s : Ex w.S H H') (i : ∀ d, Q2 d → Q' d) : Post N w H0 B ow H' σ ρ Q2 Q := fun v d H2 r s2 h q => k v d H2 r (Ex.trans s s2) h (i d q)
/-! ### names, constants -/
def pVar (i : Nat) : PEx := fun ρ Q => ∃ d, ρ[i]? = some (some (.d d)) ∧ Q d
def pC (d : Da) : PEx := fun _ Q => Q d
theorem sim_var (i : Nat) : SimE N (tVar i) (pVar i) := by
  intro w H0 B aw ow H σ ρ Q Q' r h k
  obtain ⟨d, e, q⟩ := h
  obtain ⟨v, ev, rv⟩ := r.sl i _ e
  exact ⟨v, ev, k.flat r rv q⟩
theorem sim_int (i : Int) : SimE N (tC (.int i)) (pC (.int i)) := fun w H0 B aw ow H σ ρ Q Q' r h k => k.flat r (.int i) h
theorem sim_str (i : Str) : SimE N (tC (.str i)) (pC (.str i)) := fun w H0 B aw ow H σ ρ Q Q' r h k => k.flat r (.str i) h
theorem sim_bl (i : Bool) : SimE N (tC (.bl i)) (pC (.bl i)) := fun w H0 B aw ow H σ ρ Q Q' r h k => k.flat r (.bl i) h
theorem sim_non : SimE N (tC .non) (pC .non) := fun w H0 B aw ow H σ ρ Q Q' r h k => k.flat r .non h
theorem sim_ty (n : String) : SimE N (tC (.ty n)) (pC (.ty n)) := fun w H0 B aw ow H σ ρ Q Q' r h k => k.flat r (.ty n) h
/-! ### arguments, displays -/
def pNil : PAr := fun _ Q => Q []
def pCons (a : PEx) (t : PAr) : PAr := fun ρ Q => a ρ fun x => t ρ fun xs => Q (x :: xs)
theorem sim_nil : SimA N tNil pNil := fun w H0 B aw ow H σ ρ Q Q' r h k => k [] [] H r (r.exOf (Same.refl _)) .nil h
theorem sim_cons {a : TE} {t : TA} {pa : PEx} {pt : PAr} (ha : SimE N a pa) (ht : SimA N t pt) : SimA N (tCons a t) (pCons pa pt) := by
  intro w H0 B aw ow H σ ρ Q Q' r h k
  refine ha w H0 B aw ow H σ ρ _ _ r h fun v d H1 r1 s1 h1 q1 => ?_
  refine ht w H0 B aw ow H1 σ ρ _ _ r1 q1 fun vs ds H2 r2 s2 h2 q2 => ?_
  exact k _ _ H2 r2 (Ex.trans s1 s2) (.cons (rpS (s2.dh r1) h1) h2) q2
def pLst (t : PAr) : PEx := fun ρ Q => t ρ fun ds => ds.length ≤ 100000 ∧ Q (.lst ds)
def pTup (t : PAr) : PEx := fun ρ Q => t ρ fun ds => ds.length ≤ 100000 ∧ Q (.tup ds)
theorem sim_lst {t : TA} {pt : PAr} (ht : SimA N t pt) : SimE N (tLst t) (pLst pt) := by
  intro w H0 B aw ow H σ ρ Q Q' r h k
  refine ht w H0 B aw ow H σ ρ _ _ r h fun vs ds H1 r1 s1 h1 ⟨l, q1⟩ => ⟨Nat.le_trans (by rw [rpsLen h1]; exact l) (by decide), fun p hp => ?_⟩
  exact (k.then s1 fun _ q => q).newL r1 h1 q1 hp
theorem sim_tup {t : TA} {pt : PAr} (ht : SimA N t pt) : SimE N (tTup t) (pTup pt) := by
  intro w H0 B aw ow H σ ρ Q Q' r h k
  refine ht w H0 B aw ow H σ ρ _ _ r h fun vs ds H1 r1 s1 h1 ⟨l, q1⟩ => ⟨Nat.le_trans (by rw [rpsLen h1]; exact l) (by decide), fun p hp => ?_⟩
  exact (k.then s1 fun _ q => q).newT r1 h1 q1 hp
/-! ### operators -/
def pOp (r : PR2) (a b : PEx) : PEx := fun ρ Q => a ρ fun x => b ρ fun y => r x y Q
def pUn (r : PR1) (a : PEx) : PEx := fun ρ Q => a ρ fun x => r x Q
def pCB (r : PRl) (a : PAr) : PEx := fun ρ Q => a ρ fun x => r x Q
theorem sim_op {r : R2} {q : PR2} {a b : TE} {pa pb : PEx} (hr : SimR N r q) (ha : SimE N a pa) (hb : SimE N b pb) : SimE N (tOp r a b) (pOp q pa pb) := by
  intro w H0 B aw ow H σ ρ Q Q' rr h k
  refine ha w H0 B aw ow H σ ρ _ _ rr h fun x dx H1 r1 s1 h1 q1 => ?_
  refine hb w H0 B aw ow H1 σ ρ _ _ r1 q1 fun y dy H2 r2 s2 h2 q2 => ?_
  exact hr w H0 B ow H2 σ ρ x y dx dy Q Q' r2 (rpS (s2.dh r1) h1) h2 q2 (k.then (Ex.trans s1 s2) fun _ q => q)
theorem sim_un {r : V → Hp → VK → Prop} {q : PR1} {a : TE} {pa : PEx} (hr : SimU N r q) (ha : SimE N a pa) : SimE N (tUn r a) (pUn q pa) := by
  intro w H0 B aw ow H σ ρ Q Q' rr h k
  refine ha w H0 B aw ow H σ ρ _ _ rr h fun x dx H1 r1 s1 h1 q1 => ?_
  exact hr w H0 B ow H1 σ ρ x dx Q Q' r1 h1 q1 (k.then s1 fun _ q => q)
theorem sim_cb {r : List V → Hp → VK → Prop} {q : PRl} {a : TA} {pa : PAr} (hr : SimL N r q) (ha : SimA N a pa) : SimE N (tCB r a) (pCB q pa) := by
  intro w H0 B aw ow H σ ρ Q Q' rr h k
  refine ha w H0 B aw ow H σ ρ _ _ rr h fun x dx H1 r1 s1 h1 q1 => ?_
  exact hr w H0 B ow H1 σ ρ x dx Q Q' r1 h1 q1 (k.then s1 fun _ q => q)
def pAdd : PR2 := fun x y Q => match x, y with
  | .int i, .int j => Q (.int (i + j))
  | .str a, .str b => a.length + b.length ≤ 100000 ∧ Q (.str (a ++ b))
  | .lst a, .lst b => a.length + b.length ≤ 100000 ∧ Q (.lst (a ++ b))
  | .tup a, .tup b => a.length + b.length ≤ 100000 ∧ Q (.tup (a ++ b))
  | _, _ => False
theorem sim_add : SimR N (uAdd N.K) pAdd := by
  intro w H0 B ow H σ ρ x y dx dy Q Q' r hx hy h k
  cases dx <;> cases dy <;> first | exact h.elim | skip
  · cases hx; cases hy; exact k.flat r (.int _) h
  · cases hx; cases hy; exact ⟨Nat.le_trans h.1 (by decide), k.flat r (.str _) h.2⟩
  · obtain ⟨a, xs, rfl, e1, r1⟩ := rpT hx
    obtain ⟨b, ys, rfl, e2, r2⟩ := rpT hy
    refine .inr ⟨a, b, xs, ys, rfl, rfl, Same.sqT hid_le e1, Same.sqT hid_le e2, Nat.le_trans (by rw [rpsLen r1, rpsLen r2]; exact h.1) (by decide), ?_⟩
    have ra := rpsApp r1 r2
    refine ⟨fun z => ?_, fun z1 z2 => ?_, fun _ _ p hp => k.newT r ra h.2 hp⟩
    · subst z
      have := rpsLen r1
      rw [List.length_nil] at this
      obtain rfl := List.length_eq_zero_iff.mp this.symm
      exact k.flat r hy (by simpa using h.2)
    · subst z2
      have := rpsLen r2
      rw [List.length_nil] at this
      obtain rfl := List.length_eq_zero_iff.mp this.symm
      exact k.flat r hx (by simpa using h.2)
  · obtain ⟨a, xs, rfl, e1, r1⟩ := rpL hx
    obtain ⟨b, ys, rfl, e2, r2⟩ := rpL hy
    exact .inl ⟨a, b, xs, ys, rfl, rfl, hid_le _ _ e1, hid_le _ _ e2, Nat.le_trans (by rw [rpsLen r1, rpsLen r2]; exact h.1) (by decide), fun p hp => k.newL r (rpsApp r1 r2) h.2 hp⟩
def pSub : PR2 := fun x y Q => match x, y with
  | .int i, .int j => Q (.int (i - j))
  | _, _ => False
def pMul : PR2 := fun x y Q => match x, y with
  | .int i, .int j => MulOk i j ∧ Q (.int (i * j))
  | _, _ => False
def pDiv : PR2 := fun x y Q => match x, y with
  | .int i, .int j => CDivW i j ∧ Q (.int (i / j))
  | _, _ => False
def pMod : PR2 := fun x y Q => match x, y with
  | .int i, .int j => 0 < j ∧ Q (.int (i % j))
  | _, _ => False
def pPow : PR2 := fun x y Q => match x, y with
  | .int i, .int j => CPow i j ∧ Q (.int (i ^ j.toNat))
  | _, _ => False
def pNeg : PR1 := fun x Q => match x with
  | .int i => Q (.int (-i))
  | _ => False
def pLt : PR2 := fun x y Q => match x, y with
  | .int i, .int j => Q (.bl (decide (i < j)))
  | .str i, .str j => Q (.bl (decide (i.cps.toList < j.cps.toList)))
  | .tup [.int i, .str x], .tup [.int j, .str y] => Q (.bl (if i = j then decide (x.cps.toList < y.cps.toList) else decide (i < j)))
  | _, _ => False
def pLe : PR2 := fun x y Q => match x, y with
  | .int i, .int j => Q (.bl (decide (i ≤ j)))
  | .str i, .str j => Q (.bl (!decide (j.cps.toList < i.cps.toList)))
  | _, _ => False
def pGt : PR2 := fun x y Q => match x, y with
  | .int i, .int j => Q (.bl (decide (j < i)))
  | .str i, .str j => Q (.bl (decide (j.cps.toList < i.cps.toList)))
  | _, _ => False
def pGe : PR2 := fun x y Q => match x, y with
  | .int i, .int j => Q (.bl (decide (j ≤ i)))
  | .str i, .str j => Q (.bl (!decide (i.cps.toList < j.cps.toList)))
  | _, _ => False
theorem sim_sub : SimR N uSub pSub := by
  intro w H0 B ow H σ ρ x y dx dy Q Q' r hx hy h k
  cases dx <;> cases dy <;> first | exact h.elim | skip
  cases hx; cases hy; exact k.flat r (.int _) h
theorem sim_mul : SimR N uMul pMul := by
  intro w H0 B ow H σ ρ x y dx dy Q Q' r hx hy h k
  cases dx <;> cases dy <;> first | exact h.elim | skip
  cases hx; cases hy; exact ⟨h.1, k.flat r (.int _) h.2⟩
theorem sim_div : SimR N uDiv pDiv := by
  intro w H0 B ow H σ ρ x y dx dy Q Q' r hx hy h k
  cases dx <;> cases dy <;> first | exact h.elim | skip
  cases hx; cases hy; exact ⟨h.1, k.flat r (.int _) h.2⟩
theorem sim_mod : SimR N uMod pMod := by
  intro w H0 B ow H σ ρ x y dx dy Q Q' r hx hy h k
  cases dx <;> cases dy <;> first | exact h.elim | skip
  cases hx; cases hy; exact ⟨h.1, k.flat r (.int _) h.2⟩
theorem sim_pow : SimR N uPow pPow := by
  intro w H0 B ow H σ ρ x y dx dy Q Q' r hx hy h k
  cases dx <;> cases dy <;> first | exact h.elim | skip
  cases hx; cases hy; exact ⟨h.1, k.flat r (.int _) h.2⟩
theorem sim_neg : SimU N uNeg pNeg := by
  intro w H0 B ow H σ ρ x dx Q Q' r hx h k
  cases dx <;> first | exact h.elim | skip
  cases hx; exact k.flat r (.int _) h
theorem sim_lt : SimR N (uLt N.K) pLt := by
  intro w H0 B ow H σ ρ x y dx dy Q Q' r hx hy h k
  unfold pLt at h
  split at h
  · cases hx; cases hy; exact k.flat r (.bl _) h
  · cases hx; cases hy; exact k.flat r (.bl _) h
  · obtain ⟨a, xs, rfl, e1, r1⟩ := rpT hx
    obtain ⟨b, ys, rfl, e2, r2⟩ := rpT hy
    obtain ⟨v1, w1, rfl, a1, r1⟩ := rpsC r1
    obtain ⟨v2, w2, rfl, a2, r1⟩ := rpsC r1
    obtain ⟨u1, z1, rfl, b1, r2⟩ := rpsC r2
    obtain ⟨u2, z2, rfl, b2, r2⟩ := rpsC r2
    obtain rfl := rps0 r1
    obtain rfl := rps0 r2
    cases a1; cases a2; cases b1; cases b2
    exact z_ltIS (Same.sqT hid_le e1) (Same.sqT hid_le e2) (k.flat r (.bl _) h)
  · exact h.elim
theorem sim_le : SimR N uLe pLe := by
  intro w H0 B ow H σ ρ x y dx dy Q Q' r hx hy h k
  cases dx <;> cases dy <;> first | exact h.elim | skip
  · cases hx; cases hy; exact k.flat r (.bl _) h
  · cases hx; cases hy; exact k.flat r (.bl _) h
theorem sim_gt : SimR N uGt pGt := by
  intro w H0 B ow H σ ρ x y dx dy Q Q' r hx hy h k
  cases dx <;> cases dy <;> first | exact h.elim | skip
  · cases hx; cases hy; exact k.flat r (.bl _) h
  · cases hx; cases hy; exact k.flat r (.bl _) h
theorem sim_ge : SimR N uGe pGe := by
  intro w H0 B ow H σ ρ x y dx dy Q Q' r hx hy h k
  cases dx <;> cases dy <;> first | exact h.elim | skip
  · cases hx; cases hy; exact k.flat r (.bl _) h
  · cases hx; cases hy; exact k.flat r (.bl _) h
end

/-! ### == of plain data -/
/-- == of flat things -/
def eq0 : Da → Da → Bool
  | .non, .non => true
  | .bl a, .bl b => decide (a = b)
  | .bl a, .int j => decide ((if a then 1 else 0) = j)
  | .int i, .bl b => decide (i = (if b then 1 else 0))
  | .int i, .int j => decide (i = j)
  | .str x, .str y => decide (x = y)
  | _, _ => false
def kd0 : Da → Nat
  | .bl _ => 1 | .str _ => 2 | _ => 0
/-- fields of records: values of one kind -/
def eqF1 : Da → Da → Bool
  | .tup [a, u], .tup [b, v] => eq0 a b && (decide (kd0 u = kd0 v) && eq0 u v)
  | _, _ => false
def eqF : Da → Da → Bool
  | .tup l, .tup m => (List.zipWith eqF1 l m).all id && (l.length == m.length)
  | _, _ => false
mutual
def eqD : Da → Da → Bool
  | .tup xs, .tup ys => eqDs xs ys
  | .lst xs, .lst ys => eqDs xs ys
  | .ins x ks xs, .ins y ls ys => decide (x = y) && decide (ks = ls) && (if x = "Record" then eqRs 0 xs ys else eqDs xs ys)
  | .st, .st => true
  | .ty n, .ty m => decide (n = m)
  | x, y => eq0 x y
def eqDs : List Da → List Da → Bool
  | [], [] => true
  | x :: xs, y :: ys => eqD x y && eqDs xs ys
  | [], _ :: _ => false
  | _ :: _, [] => false
/-- a record's: the third field by values of one kind -/
def eqRs : Nat → List Da → List Da → Bool
  | _, [], [] => true
  | i, x :: xs, y :: ys => (if i = 2 then eqF x y else eqD x y) && eqRs (i + 1) xs ys
  | _, [], _ :: _ => false
  | _, _ :: _, [] => false
end
def flD : Da → Bool
  | .non => true | .bl _ => true | .int _ => true | .str _ => true | _ => false
/-! what may be compared: flat things, tuples and lists place by place -/
mutual
def Cq : Nat → Da → Da → Prop
  | 0, x, y => flD x = true ∧ flD y = true
  | n + 1, .tup a, .tup b => Cqs n a b
  | n + 1, .lst a, .lst b => Cqs n a b
  | _ + 1, x, y => flD x = true ∧ flD y = true
def Cqs : Nat → List Da → List Da → Prop
  | n, x :: a, y :: b => Cq n x y ∧ Cqs n a b
  | _, _, _ => True
end
theorem Cqs.of {n : Nat} : ∀ {a b : List Da}, (∀ (i : Nat) (x y : Da), a[i]? = some x → b[i]? = some y → Cq n x y) → Cqs n a b
  | [], _, _ => by unfold Cqs; trivial
  | _ :: _, [], _ => by unfold Cqs; trivial
  | x :: a, y :: b, h => by unfold Cqs; exact ⟨h 0 x y rfl rfl, Cqs.of fun i u v hu hv => h (i + 1) u v hu hv⟩
theorem Cqs.at {n : Nat} : ∀ {a b : List Da}, Cqs n a b → ∀ (i : Nat) (x y : Da), a[i]? = some x → b[i]? = some y → Cq n x y
  | [], _, _, i, x, y, hx, _ => by cases hx
  | _ :: _, [], _, i, x, y, _, hy => by cases hy
  | u :: a, v :: b, h, i, x, y, hx, hy => by
    unfold Cqs at h
    cases i with
    | zero => cases hx; cases hy; exact h.1
    | succ i => exact Cqs.at h.2 i x y hx hy
theorem Cq.flat {n : Nat} {x y : Da} (h1 : flD x = true) (h2 : flD y = true) : Cq n x y := by
  cases n with
  | zero => unfold Cq; exact ⟨h1, h2⟩
  | succ n => cases x <;> cases y <;> first | (cases h1; done) | (cases h2; done) | (unfold Cq; exact ⟨rfl, rfl⟩)
theorem Cq.tup {n : Nat} {a b : List Da} (h : ∀ (i : Nat) (x y : Da), a[i]? = some x → b[i]? = some y → Cq n x y) : Cq (n + 1) (.tup a) (.tup b) := by unfold Cq; exact Cqs.of h
theorem Cq.lst {n : Nat} {a b : List Da} (h : ∀ (i : Nat) (x y : Da), a[i]? = some x → b[i]? = some y → Cq n x y) : Cq (n + 1) (.lst a) (.lst b) := by unfold Cq; exact Cqs.of h
theorem all_get {l : List Da} {f : Da → Bool} (h : l.all f = true) {i : Nat} {x : Da} (e : l[i]? = some x) : f x = true := List.all_eq_true.mp h x (List.mem_of_getElem? e)
theorem Cq.flats {n : Nat} {a b : List Da} (h1 : a.all flD = true) (h2 : b.all flD = true) : ∀ (i : Nat) (x y : Da), a[i]? = some x → b[i]? = some y → Cq n x y := fun i x y hx hy => Cq.flat (all_get h1 hx) (all_get h2 hy)
theorem flI {xs : List Int} : (xs.map Da.int).all flD = true := by rw [List.all_map]; exact List.all_eq_true.mpr fun _ _ => rfl
theorem flX {xs : List Str} : (xs.map Da.str).all flD = true := by rw [List.all_map]; exact List.all_eq_true.mpr fun _ _ => rfl
theorem eqDs_all : ∀ {a b : List Da}, eqDs a b = ((List.range (min a.length b.length)).all (fun i => eqD (a.getD i .non) (b.getD i .non)) && (a.length == b.length))
  | [], [] => rfl
  | [], _ :: _ => by simp [eqDs]
  | _ :: _, [] => by simp [eqDs]
  | x :: a, y :: b => by
    unfold eqDs
    rw [eqDs_all (a := a) (b := b)]
    simp only [List.length_cons, Nat.add_min_add_right, List.range_succ_eq_map, List.all_cons, List.all_map, List.getD_cons_zero, Function.comp_def, List.getD_cons_succ, Nat.succ_eq_add_one]
    rw [Bool.and_assoc]
    congr 2
    rw [Bool.eq_iff_iff, beq_iff_eq, beq_iff_eq]; omega
section
variable {K : PySem.W.Frag} {c : CEnv} {S : Option Addr} {G : Hp}
theorem flV_of {v : V} {d : Da} (h : Rp K c S G v d) (f : flD d = true) : flatV v = true := by
  cases d <;> first | (cases f; done) | (cases h; rfl)
theorem eqV_of {v u : V} {d e : Da} (h : Rp K c S G v d) (h2 : Rp K c S G u e) (f : flD d = true) (f2 : flD e = true) : eqV v u = eqD d e := by
  cases d <;> first | (cases f; done) | skip
  all_goals cases e <;> first | (cases f2; done) | skip
  all_goals cases h
  all_goals cases h2
  all_goals (simp only [eqV, eqD, eq0]; try rw [Bool.eq_iff_iff, beq_iff_eq, decide_eq_true_iff])
theorem eqB_sq {n : Nat} (ih : ∀ {x y : V} {d e : Da}, Cq n d e → Rp K c S G x d → Rp K c S G y e → EqB K G n x y (eqD d e)) {xs ys : List V} {a b : List Da} (hc : Cqs n a b) (ra : RpA K c S G xs a) (rb : RpA K c S G ys b) :
    (∀ (i : Nat) (x y : V), xs[i]? = some x → ys[i]? = some y → EqB K G n x y ((fun i => eqD (a.getD i .non) (b.getD i .non)) i)) ∧ eqDs a b = allB xs ys (fun i => eqD (a.getD i .non) (b.getD i .non)) := by
  refine ⟨fun i x y ex ey => ?_, ?_⟩
  · obtain ⟨d, ed, rd⟩ := rpsGetV ra ex
    obtain ⟨e, ee, re⟩ := rpsGetV rb ey
    have z := ih (hc.at i d e ed ee) rd re
    simp only [List.getD_eq_getElem?_getD, ed, ee]
    exact z
  · rw [eqDs_all]
    unfold allB
    rw [rpsLen ra, rpsLen rb]
theorem eqB_of : ∀ {n : Nat} {x y : V} {d e : Da}, Cq n d e → Rp K c S G x d → Rp K c S G y e → EqB K G n x y (eqD d e)
  | 0, x, y, d, e, h, hx, hy => by
    unfold Cq at h
    exact .inl ⟨flV_of hx h.1, flV_of hy h.2, (eqV_of hx hy h.1 h.2).symm⟩
  | n + 1, x, y, d, e, h, hx, hy => by
    have fl : flD d = true ∧ flD e = true → EqB K G (n + 1) x y (eqD d e) := fun z => EqB.up (Nat.zero_le _) (.inl ⟨flV_of hx z.1, flV_of hy z.2, (eqV_of hx hy z.1 z.2).symm⟩)
    have sq := fun {xs ys : List V} {a b : List Da} => eqB_sq (K := K) (c := c) (S := S) (G := G) (n := n) (fun hc hx hy => eqB_of hc hx hy) (xs := xs) (ys := ys) (a := a) (b := b)
    cases d with
    | tup a => cases e with
      | tup b =>
        unfold Cq at h
        obtain ⟨p, xs, rfl, ep, ra⟩ := rpT hx
        obtain ⟨q, ys, rfl, eq', rb⟩ := rpT hy
        obtain ⟨k1, k2⟩ := sq h ra rb
        simp only [eqD]
        exact EqB.of (.inl ⟨ep, eq'⟩) k1 k2
      | _ => (unfold Cq at h; cases h.1)
    | lst a => cases e with
      | lst b =>
        unfold Cq at h
        obtain ⟨p, xs, rfl, ep, ra⟩ := rpL hx
        obtain ⟨q, ys, rfl, eq', rb⟩ := rpL hy
        obtain ⟨k1, k2⟩ := sq h ra rb
        simp only [eqD]
        exact EqB.of (.inr ⟨SqL.of ep, SqL.of eq'⟩) k1 k2
      | _ => (unfold Cq at h; cases h.1)
    | _ => exact fl (by cases e <;> first | (unfold Cq at h; exact h) | exact h)
end
def pEq : PR2 := fun x y Q => ∃ n, n ≤ 16 ∧ Cq n x y ∧ Q (.bl (eqD x y))
def pNe : PR2 := fun x y Q => ∃ n, n ≤ 16 ∧ Cq n x y ∧ Q (.bl (!eqD x y))
section
variable {N : Cn} {w : Pw} {H0 B H H' : Hp} {ow : Ow} {σ : L2.St} {ρ : PEnv}
theorem eq_gen {K : PySem.W.Frag} {c : CEnv} {S : Option Addr} {G : Hp} {n : Nat} {x y : V} {dx dy : Da} {Q : VK} (hn : n ≤ 16) (hc : Cq n dx dy) (hx : Rp K c S G x dx) (hy : Rp K c S G y dy) : (Q (.bl (eqD dx dy)) G → uEq K x y G Q) ∧ (Q (.bl (!eqD dx dy)) G → uNe K x y G Q) := by
  by_cases f : flD dx = true ∧ flD dy = true
  · obtain ⟨f1, f2⟩ := f
    cases dx <;> first | (cases f1; done) | skip
    all_goals cases dy <;> first | (cases f2; done) | skip
    all_goals cases hx
    all_goals cases hy
    all_goals simp only [eqD, eq0]
    all_goals refine ⟨fun q => ?_, fun q => ?_⟩
    all_goals first
      | exact q
      | (refine .inl ⟨rfl, ?_⟩; rw [decide_eq_false (by intro z; cases z)]; exact q)
      | (refine .inr ⟨_, _, by first | exact .bl _ | exact .int _, by first | exact .bl _ | exact .int _, rfl, rfl, ?_⟩; simp only [PyData.eqv]; first | exact q | (rename_i a b; rw [show ((if a = true then (1 : Int) else 0) == b) = decide ((if a = true then (1 : Int) else 0) = b) by rw [Bool.eq_iff_iff, beq_iff_eq, decide_eq_true_iff]]; exact q) | (rename_i a b; rw [show (a == (if b = true then (1 : Int) else 0)) = decide (a = (if b = true then (1 : Int) else 0)) by rw [Bool.eq_iff_iff, beq_iff_eq, decide_eq_true_iff]]; exact q))
  · have sq : ∃ a b xs ys e, x = .ref a ∧ y = .ref b ∧ sameSq K G a b xs ys ∧ (∀ (i : Nat) (x y : V), xs[i]? = some x → ys[i]? = some y → EqB K G n x y (e i)) ∧ eqD dx dy = allB xs ys e := by
      cases n with
      | zero => unfold Cq at hc; exact absurd hc f
      | succ n =>
        cases dx with
        | tup a => cases dy with
          | tup b =>
            unfold Cq at hc
            obtain ⟨p, xs, rfl, ep, ra⟩ := rpT hx
            obtain ⟨q, ys, rfl, eq', rb⟩ := rpT hy
            obtain ⟨k1, k2⟩ := eqB_sq (fun hc hx hy => eqB_of hc hx hy) hc ra rb
            exact ⟨p, q, xs, ys, _, rfl, rfl, .inl ⟨ep, eq'⟩, fun i u v hu hv => .inl (k1 i u v hu hv), by simp only [eqD]; exact k2⟩
          | _ => (unfold Cq at hc; exact absurd hc f)
        | lst a => cases dy with
          | lst b =>
            unfold Cq at hc
            obtain ⟨p, xs, rfl, ep, ra⟩ := rpL hx
            obtain ⟨q, ys, rfl, eq', rb⟩ := rpL hy
            obtain ⟨k1, k2⟩ := eqB_sq (fun hc hx hy => eqB_of hc hx hy) hc ra rb
            exact ⟨p, q, xs, ys, _, rfl, rfl, .inr ⟨SqL.of ep, SqL.of eq'⟩, fun i u v hu hv => .inl (k1 i u v hu hv), by simp only [eqD]; exact k2⟩
          | _ => (unfold Cq at hc; exact absurd hc f)
        | _ => exact absurd (by cases dy <;> first | (unfold Cq at hc; exact hc) | exact hc) f
    obtain ⟨a, b, xs, ys, e, rfl, rfl, h1, h2, h3⟩ := sq
    rw [h3]
    exact ⟨fun q => .inr ⟨n, xs, ys, e, hn, h1, h2, q⟩, fun q => .inr ⟨n, xs, ys, e, hn, h1, h2, q⟩⟩
theorem sim_eq : SimR N (uEq N.K) pEq := by
  intro w H0 B ow H σ ρ x y dx dy Q Q' r hx hy h k
  obtain ⟨n, hn, hc, q⟩ := h
  exact (eq_gen hn hc (rpS hid_le hx) (rpS hid_le hy)).1 (k.flat r (.bl _) q)
theorem sim_ne : SimR N (uNe N.K) pNe := by
  intro w H0 B ow H σ ρ x y dx dy Q Q' r hx hy h k
  obtain ⟨n, hn, hc, q⟩ := h
  exact (eq_gen hn hc (rpS hid_le hx) (rpS hid_le hy)).2 (k.flat r (.bl _) q)
def isNon : Da → Bool | .non => true | _ => false
/-! ### is, in -/
def pIs : PR2 := fun x y Q => match x, y with
  | x, .non => Q (.bl (isNon x))
  | .bl a, .bl b => Q (.bl (decide (a = b)))
  | _, _ => False
def pIsNot : PR2 := fun x y Q => match x, y with
  | x, .non => Q (.bl (!isNon x))
  | .bl a, .bl b => Q (.bl (!decide (a = b)))
  | _, _ => False
theorem isNon_of {K : PySem.W.Frag} {c : CEnv} {S : Option Addr} {G : Hp} {v : V} {d : Da} (h : Rp K c S G v d) : decide (v = .non) = isNon d := by
  cases h <;> first | rfl | exact decide_eq_false (fun z => by cases z)
theorem sim_is : SimR N uIs pIs := by
  intro w H0 B ow H σ ρ x y dx dy Q Q' r hx hy h k
  have hn : ∀ q : Q' (.bl (isNon dx)), Q (.bl (decide (x = .non))) H := fun q => k.flat r (by rw [isNon_of hx]; exact .bl _) q
  cases dy with
  | non => cases hy; exact z_is (hn (by simpa [pIs] using h))
  | bl b =>
    cases hy
    cases dx <;> first | exact h.elim | skip
    cases hx; exact k.flat r (.bl _) h
  | _ => simp only [pIs] at h
theorem sim_isNot : SimR N uIsNot pIsNot := by
  intro w H0 B ow H σ ρ x y dx dy Q Q' r hx hy h k
  have hn : ∀ q : Q' (.bl (!isNon dx)), Q (.bl (!decide (x = .non))) H := fun q => k.flat r (by rw [isNon_of hx]; exact .bl _) q
  cases dy with
  | non => cases hy; exact z_isNot (hn (by simpa [pIsNot] using h))
  | bl b =>
    cases hy
    cases dx <;> first | exact h.elim | skip
    cases hx; exact k.flat r (.bl _) h
  | _ => simp only [pIsNot] at h
def inD (x : Da) (l : List Da) : Bool := l.any fun y => eqD y x
def pIn : PR2 := fun x y Q => match x, y with
  | .str i, .str j => Q (.bl (!(Builtin.Str.occurrences j i 0 j.length 1).isEmpty))
  | x, .lst l => flD x = true ∧ l.all flD = true ∧ Q (.bl (inD x l))
  | x, .tup l => flD x = true ∧ l.all flD = true ∧ Q (.bl (inD x l))
  | _, _ => False
def pNotIn : PR2 := fun x y Q => match x, y with
  | .str i, .str j => Q (.bl (!(!(Builtin.Str.occurrences j i 0 j.length 1).isEmpty)))
  | x, .lst l => flD x = true ∧ l.all flD = true ∧ Q (.bl (!inD x l))
  | x, .tup l => flD x = true ∧ l.all flD = true ∧ Q (.bl (!inD x l))
  | _, _ => False
theorem flVs_of {K : PySem.W.Frag} {c : CEnv} {S : Option Addr} {G : Hp} : ∀ {vs : List V} {ds : List Da}, RpA K c S G vs ds → ds.all flD = true → vs.all flatV = true
  | _, [], h, _ => by rw [rps0 h]; rfl
  | _, d :: ds, h, f => by
    obtain ⟨v, ws, rfl, a, b⟩ := rpsC h
    rw [List.all_cons, Bool.and_eq_true] at f ⊢
    exact ⟨flV_of a f.1, flVs_of b f.2⟩
theorem inV_of {K : PySem.W.Frag} {c : CEnv} {S : Option Addr} {G : Hp} {v : V} {d : Da} (h : Rp K c S G v d) (f : flD d = true) : ∀ {vs : List V} {ds : List Da}, RpA K c S G vs ds → ds.all flD = true → inV v vs = inD d ds
  | _, [], r, _ => by rw [rps0 r]; rfl
  | _, e :: ds, r, g => by
    obtain ⟨u, ws, rfl, a, b⟩ := rpsC r
    rw [List.all_cons, Bool.and_eq_true] at g
    show (eqV u v || inV v ws) = (eqD e d || inD d ds)
    rw [eqV_of a h g.1 f, inV_of h f b g.2]
theorem sim_in : SimR N (uIn N.K) pIn := by
  intro w H0 B ow H σ ρ x y dx dy Q Q' r hx hy h k
  cases dy with
  | str j => cases dx <;> first | exact h.elim | (cases hx; cases hy; exact k.flat r (.bl _) h)
  | lst l =>
    have h : flD dx = true ∧ l.all flD = true ∧ Q' (.bl (inD dx l)) := by cases dx <;> exact h
    obtain ⟨a, ys, rfl, e, rr⟩ := rpL hy
    exact z_in (.inl (SqL.of (hid_le _ _ e))) (flV_of hx h.1) (flVs_of rr h.2.1) (by rw [inV_of hx h.1 rr h.2.1]; exact k.flat r (.bl _) h.2.2)
  | tup l =>
    have h : flD dx = true ∧ l.all flD = true ∧ Q' (.bl (inD dx l)) := by cases dx <;> exact h
    obtain ⟨a, ys, rfl, e, rr⟩ := rpT hy
    exact z_in (.inr (Same.sqT hid_le e)) (flV_of hx h.1) (flVs_of rr h.2.1) (by rw [inV_of hx h.1 rr h.2.1]; exact k.flat r (.bl _) h.2.2)
  | _ => cases dx <;> exact h.elim
theorem sim_notIn : SimR N (uNotIn N.K) pNotIn := by
  intro w H0 B ow H σ ρ x y dx dy Q Q' r hx hy h k
  cases dy with
  | str j => cases dx <;> first | exact h.elim | (cases hx; cases hy; exact k.flat r (.bl _) h)
  | lst l =>
    have h : flD dx = true ∧ l.all flD = true ∧ Q' (.bl (!inD dx l)) := by cases dx <;> exact h
    obtain ⟨a, ys, rfl, e, rr⟩ := rpL hy
    exact z_notIn (.inl (SqL.of (hid_le _ _ e))) (flV_of hx h.1) (flVs_of rr h.2.1) (by rw [inV_of hx h.1 rr h.2.1]; exact k.flat r (.bl _) h.2.2)
  | tup l =>
    have h : flD dx = true ∧ l.all flD = true ∧ Q' (.bl (!inD dx l)) := by cases dx <;> exact h
    obtain ⟨a, ys, rfl, e, rr⟩ := rpT hy
    exact z_notIn (.inr (Same.sqT hid_le e)) (flV_of hx h.1) (flVs_of rr h.2.1) (by rw [inV_of hx h.1 rr h.2.1]; exact k.flat r (.bl _) h.2.2)
  | _ => cases dx <;> exact h.elim
/-! ### items, built-ins -/
def pIx : PR2 := fun x y Q => match x, y with
  | .lst l, .int i => ∃ d, atI l i = some d ∧ Q d
  | .tup l, .int i => ∃ d, atI l i = some d ∧ Q d
  | .str z, .int i => z.length ≤ 100000 ∧ ∃ ch, atI z.cps.toList i = some ch ∧ Q (.str ⟨#[ch]⟩)
  | _, _ => False
theorem sim_ix : SimR N (uIx N.K) pIx := by
  intro w H0 B ow H σ ρ x y dx dy Q Q' r hx hy h k
  cases dx <;> cases dy <;> first | exact h.elim | skip
  · cases hx; cases hy
    obtain ⟨hz, ch, e, q⟩ := h
    exact ⟨ch, Nat.le_trans hz (by decide), e, k.flat r (.str _) q⟩
  · obtain ⟨a, ys, rfl, e, rr⟩ := rpT hx
    cases hy
    obtain ⟨d, ed, q⟩ := h
    obtain ⟨v, ev, rv⟩ := rpsAt rr ed
    exact z_ix (.inr (Same.sqT hid_le e)) ev (k.flat r rv q)
  · obtain ⟨a, ys, rfl, e, rr⟩ := rpL hx
    cases hy
    obtain ⟨d, ed, q⟩ := h
    obtain ⟨v, ev, rv⟩ := rpsAt rr ed
    exact z_ix (.inl (SqL.of (hid_le _ _ e))) ev (k.flat r rv q)
def pLen : PRl := fun ds Q => match ds with
  | [.lst l] => Q (.int l.length)
  | [.tup l] => Q (.int l.length)
  | [.str z] => z.length ≤ 100000 ∧ Q (.int z.length)
  | _ => False
theorem rps1 {K : PySem.W.Frag} {c : CEnv} {S : Option Addr} {G : Hp} {vs : List V} {d : Da} (h : RpA K c S G vs [d]) : ∃ v, vs = [v] ∧ Rp K c S G v d := by
  obtain ⟨v, ws, rfl, a, b⟩ := rpsC h
  obtain rfl := rps0 b
  exact ⟨v, rfl, a⟩
theorem rps2 {K : PySem.W.Frag} {c : CEnv} {S : Option Addr} {G : Hp} {vs : List V} {d e : Da} (h : RpA K c S G vs [d, e]) : ∃ v u, vs = [v, u] ∧ Rp K c S G v d ∧ Rp K c S G u e := by
  obtain ⟨v, ws, rfl, a, b⟩ := rpsC h
  obtain ⟨u, ws2, rfl, b2, z⟩ := rpsC b
  obtain rfl := rps0 z
  exact ⟨v, u, rfl, a, b2⟩
theorem sim_len : SimL N (uLen N.K) pLen := by
  intro w H0 B ow H σ ρ xs ds Q Q' r hx h k
  unfold pLen at h
  split at h
  · obtain ⟨v, rfl, a⟩ := rps1 hx
    obtain ⟨p, ys, rfl, e, rr⟩ := rpL a
    exact z_len (.inl (SqL.of (hid_le _ _ e))) (by rw [rpsLen rr]; exact k.flat r (.int _) h)
  · obtain ⟨v, rfl, a⟩ := rps1 hx
    obtain ⟨p, ys, rfl, e, rr⟩ := rpT a
    exact z_len (.inr (Same.sqT hid_le e)) (by rw [rpsLen rr]; exact k.flat r (.int _) h)
  · obtain ⟨v, rfl, a⟩ := rps1 hx
    cases a
    exact ⟨Nat.le_trans h.1 (by decide), k.flat r (.int _) h.2⟩
  · exact h.elim
def pInt : PRl := fun ds Q => match ds with
  | [.int i] => Q (.int i)
  | [.bl b] => Q (.int (if b then 1 else 0))
  | _ => False
theorem sim_intB : SimL N uInt pInt := by
  intro w H0 B ow H σ ρ xs ds Q Q' r hx h k
  unfold pInt at h
  split at h
  · obtain ⟨v, rfl, a⟩ := rps1 hx; cases a; exact k.flat r (.int _) h
  · obtain ⟨v, rfl, a⟩ := rps1 hx; cases a; exact k.flat r (.int _) h
  · exact h.elim
def pMax : PRl := fun ds Q => match ds with
  | [.int i, .int j] => Q (.int (if j > i then j else i))
  | _ => False
def pMin : PRl := fun ds Q => match ds with
  | [.int i, .int j] => Q (.int (if j < i then j else i))
  | _ => False
def pAbs : PRl := fun ds Q => match ds with
  | [.int i] => Q (.int (if i < 0 then -i else i))
  | _ => False
theorem sim_max : SimL N uMax pMax := by
  intro w H0 B ow H σ ρ xs ds Q Q' r hx h k
  unfold pMax at h
  split at h
  · obtain ⟨v, u, rfl, a, b⟩ := rps2 hx; cases a; cases b; exact k.flat r (.int _) h
  · exact h.elim
theorem sim_min : SimL N uMin pMin := by
  intro w H0 B ow H σ ρ xs ds Q Q' r hx h k
  unfold pMin at h
  split at h
  · obtain ⟨v, u, rfl, a, b⟩ := rps2 hx; cases a; cases b; exact k.flat r (.int _) h
  · exact h.elim
theorem sim_abs : SimL N uAbs pAbs := by
  intro w H0 B ow H σ ρ xs ds Q Q' r hx h k
  unfold pAbs at h
  split at h
  · obtain ⟨v, rfl, a⟩ := rps1 hx; cases a; exact k.flat r (.int _) h
  · exact h.elim
def pList : PRl := fun ds Q => match ds with
  | [.lst l] => Q (.lst l)
  | [.tup l] => Q (.lst l)
  | _ => False
theorem sim_list : SimL N (uList N.K) pList := by
  intro w H0 B ow H σ ρ xs ds Q Q' r hx h k
  unfold pList at h
  split at h
  · obtain ⟨v, rfl, a⟩ := rps1 hx
    obtain ⟨p, ys, rfl, e, rr⟩ := rpL a
    exact z_list (.inl (SqL.of (hid_le _ _ e))) fun l hl => k.newL r rr h hl
  · obtain ⟨v, rfl, a⟩ := rps1 hx
    obtain ⟨p, ys, rfl, e, rr⟩ := rpT a
    exact z_list (.inr (Same.sqT hid_le e)) fun l hl => k.newL r rr h hl
  · exact h.elim
def pTuple : PRl := fun ds Q => match ds with
  | [.lst l] => Q (.tup l)
  | [.tup l] => Q (.tup l)
  | _ => False
theorem sim_tuple : SimL N (uTuple N.K) pTuple := by
  intro w H0 B ow H σ ρ xs ds Q Q' r hx h k
  unfold pTuple at h
  split at h
  · obtain ⟨v, rfl, a⟩ := rps1 hx
    obtain ⟨p, ys, rfl, e, rr⟩ := rpL a
    exact z_tupleL (SqL.of (hid_le _ _ e)) fun l hl => k.newT r rr h hl
  · obtain ⟨v, rfl, a⟩ := rps1 hx
    have a' := a
    obtain ⟨p, ys, rfl, e, rr⟩ := rpT a
    exact z_tupleT (Same.sqT hid_le e) (k.flat r a' h)
  · exact h.elim
def pSum : PRl := fun ds Q => match ds with
  | [.lst l] => ∃ ns : List Int, l = ns.map Da.int ∧ Q (.int ns.sum)
  | _ => False
theorem sim_sum : SimL N (rSum N.K) pSum := by
  intro w H0 B ow H σ ρ xs ds Q Q' r hx h k
  unfold pSum at h
  split at h
  · obtain ⟨v, rfl, a⟩ := rps1 hx
    obtain ⟨ns, rfl, q⟩ := h
    obtain ⟨p, ys, rfl, e, rr⟩ := rpL a
    obtain rfl := rpsI rr
    exact ⟨p, ns, rfl, SqL.of (hid_le _ _ e), k.flat r (.int _) q⟩
  · exact h.elim
def pMax1 : PRl := fun ds Q => match ds with
  | [.lst l] => ∃ ns : List Int, l = ns.map Da.int ∧ 0 < ns.length ∧ ∀ m, m ∈ ns → (∀ y, y ∈ ns → y ≤ m) → Q (.int m)
  | _ => False
def pMin1 : PRl := fun ds Q => match ds with
  | [.lst l] => ∃ ns : List Int, l = ns.map Da.int ∧ 0 < ns.length ∧ ∀ m, m ∈ ns → (∀ y, y ∈ ns → m ≤ y) → Q (.int m)
  | _ => False
theorem sim_max1 : SimL N (rMax N.K) pMax1 := by
  intro w H0 B ow H σ ρ xs ds Q Q' r hx h k
  unfold pMax1 at h
  split at h
  · obtain ⟨v, rfl, a⟩ := rps1 hx
    obtain ⟨ns, rfl, hl, q⟩ := h
    obtain ⟨p, ys, rfl, e, rr⟩ := rpL a
    obtain rfl := rpsI rr
    exact ⟨p, ns, rfl, SqL.of (hid_le _ _ e), hl, fun m h1 h2 => k.flat r (.int _) (q m h1 h2)⟩
  · exact h.elim
theorem sim_min1 : SimL N (rMin N.K) pMin1 := by
  intro w H0 B ow H σ ρ xs ds Q Q' r hx h k
  unfold pMin1 at h
  split at h
  · obtain ⟨v, rfl, a⟩ := rps1 hx
    obtain ⟨ns, rfl, hl, q⟩ := h
    obtain ⟨p, ys, rfl, e, rr⟩ := rpL a
    obtain rfl := rpsI rr
    exact ⟨p, ns, rfl, SqL.of (hid_le _ _ e), hl, fun m h1 h2 => k.flat r (.int _) (q m h1 h2)⟩
  · exact h.elim
def pOrd : PRl := fun ds Q => match ds with
  | [.str x] => x.length = 1 ∧ Q (.int (x.cps.getD 0 0 : Nat))
  | _ => False
theorem sim_ord : SimL N uOrd pOrd := by
  intro w H0 B ow H σ ρ xs ds Q Q' r hx h k
  unfold pOrd at h
  split at h
  · obtain ⟨v, rfl, a⟩ := rps1 hx; cases a; exact ⟨_, rfl, h.1, k.flat r (.int _) h.2⟩
  · exact h.elim
def pStr : PRl := fun ds Q => match ds with
  | [.int i] => i.natAbs.log2 < 1920 ∧ Q (.str (toString i))
  | [.str x] => Q (.str x)
  | _ => False
theorem sim_strB : SimL N uStr pStr := by
  intro w H0 B ow H σ ρ xs ds Q Q' r hx h k
  unfold pStr at h
  split at h
  · obtain ⟨v, rfl, a⟩ := rps1 hx; cases a; exact ⟨h.1, k.flat r (.str _) h.2⟩
  · obtain ⟨v, rfl, a⟩ := rps1 hx; cases a; exact k.flat r (.str _) h
  · exact h.elim
/-! ### isinstance -/
def tyN : Da → String
  | .non => "NoneType" | .bl _ => "bool" | .int _ => "int" | .str _ => "str" | .tup _ => "tuple" | .lst _ => "list" | _ => ""
def isTy (n : String) (x : Da) : Bool := if n = "int" then (match x with | .int _ => true | .bl _ => true | _ => false) else decide (tyN x = n)
def okTy : Da → Bool
  | .non => true | .bl _ => true | .int _ => true | .str _ => true | .tup _ => true | .lst _ => true | _ => false
def pIsi : PRl := fun ds Q => match ds with
  | [x, .ty n] => okTy x = true ∧ (n = "int" ∨ n = "bool" ∨ n = "str" ∨ n = "tuple" ∨ n = "list") ∧ Q (.bl (isTy n x))
  | _ => False
theorem tyX_of {K : PySem.W.Frag} {c : CEnv} {S : Option Addr} {G : Hp} {v : V} {d : Da} (h : Rp K c S G v d) (f : okTy d = true) : TyX K G v (.type (tyN d)) := by
  cases d <;> first | (cases f; done) | skip
  · cases h; exact .base .non
  · cases h; exact .base (.bl _)
  · cases h; exact .base (.int _)
  · cases h; exact .base (.str _)
  · obtain ⟨a, xs, rfl, e, _⟩ := rpT h
    rcases e with (e | ⟨o, e⟩) | ⟨o, its, n, e, hc, _⟩
    · exact .base (.tup e)
    · exact .fTuple e
    · exact .kTuple e hc
  · obtain ⟨a, xs, rfl, e, _⟩ := rpL h
    exact .base (.lst e)
theorem kitTy {K : PySem.W.Frag} {d : Da} (f : okTy d = true) {n : String} (h : n = "int" ∨ n = "bool" ∨ n = "str" ∨ n = "tuple" ∨ n = "list") : PySem.W.kitOne K (.type (tyN d)) (.type n) = some (isTy n d) := by
  cases d <;> first | (cases f; done) | skip
  all_goals (rcases h with rfl | rfl | rfl | rfl | rfl <;> rfl)
theorem sim_isi : SimL N (uIsi N.K) pIsi := by
  intro w H0 B ow H σ ρ xs ds Q Q' r hx h k
  unfold pIsi at h
  split at h
  · obtain ⟨v, u, rfl, a, b⟩ := rps2 hx
    cases b
    exact z_isi (.ty _) (tyX_of (rpS hid_le a) h.1) (kitTy h.1 h.2.1) (k.flat r (.bl _) h.2.2)
  · exact h.elim
/-- isinstance(x, an own class) -/
def isC1 (x : Str) (d : Da) (Q : Da → Prop) : Prop := match d with
  | .ins y _ _ => Q (.bl (SUB y x))
  | d => okTy d = true ∧ Q (.bl false)
def pIsC (x : Str) (a : PEx) : PEx := fun ρ Q => a ρ fun d => isC1 x d Q
theorem sim_isC {x : Str} {t : TE} {p : PEx} (h : SimE N t p) : SimE N (tCB (uIsi N.K) (tCons t (tCons (tCls N.K N.c x) tNil))) (pIsC x p) := by
  intro w H0 B aw ow H σ ρ Q Q' r z k
  refine h w H0 B aw ow H σ ρ _ _ r z fun v d H1 r1 x1 h1 q1 => ?_
  intro I
  cases d with
  | ins y ks l =>
    obtain ⟨p, dx, ys, rfl, ok, e, _, _⟩ := rpO h1
    exact z_isIns I ok (hid_le _ _ e) (k _ _ H1 r1 x1 (.bl _) q1)
  | _ =>
    refine z_isi (.own _) (tyX_of (rpS hid_le h1) q1.1) (I.ki _ ?_) (k _ _ H1 r1 x1 (.bl _) q1.2)
    first | (cases q1.1; done) | (with_unfolding_all (show List.contains _ "NoneType" = true); decide) | (with_unfolding_all (show List.contains _ "bool" = true); decide) | (with_unfolding_all (show List.contains _ "int" = true); decide) | (with_unfolding_all (show List.contains _ "str" = true); decide) | (with_unfolding_all (show List.contains _ "tuple" = true); decide) | (with_unfolding_all (show List.contains _ "list" = true); decide)
end

/-! ### truth, tests -/
def truD : Da → Bool → Prop
  | .non, k => k = false
  | .bl b, k => k = b
  | .int i, k => k = (i != 0)
  | .str y, k => y.length ≤ 100000 ∧ k = ((y.length : Int) != 0)
  | .lst l, k => k = !l.isEmpty
  | .tup l, k => k = !l.isEmpty
  | _, _ => False
def pTest (p : PEx) : PTe := fun ρ Q => p ρ fun d => ∃ b, d = .bl b ∧ Q b
def pTru (p : PEx) : PTe := fun ρ Q => p ρ fun d => ∃ b, truD d b ∧ Q b
def pAnd (t u : PTe) : PTe := fun ρ Q => t ρ fun b => if b = true then u ρ Q else Q false
def pOr (t u : PTe) : PTe := fun ρ Q => t ρ fun b => if b = true then Q true else u ρ Q
def pNot (t : PTe) : PTe := fun ρ Q => t ρ fun b => Q (!b)
def pAndV (a b : PEx) : PEx := fun ρ Q => a ρ fun x => ∃ k, x = .bl k ∧ if k = true then b ρ Q else Q (.bl false)
def pOrV (a b : PEx) : PEx := fun ρ Q => a ρ fun x => ∃ k, x = .bl k ∧ if k = true then Q (.bl true) else b ρ Q
def pNotV (a : PEx) : PEx := fun ρ Q => a ρ fun x => ∃ k, x = .bl k ∧ Q (.bl (!k))
def pIf (t : PTe) (a b : PEx) : PEx := fun ρ Q => t ρ fun k => if k = true then a ρ Q else b ρ Q
def pChain (r r' : PR2) (a b e : PEx) : PEx := fun ρ Q => a ρ fun x => b ρ fun y => r x y fun z => ∃ k, z = .bl k ∧ if k = true then e ρ fun u => r' y u Q else Q (.bl false)
section
variable {N : Cn} {w : Pw} {H0 B H H' : Hp} {ow : Ow} {σ : L2.St} {ρ : PEnv}
theorem PostT.then {Q' Q2 : Bool → Prop} {Q : Bool → Hp → Prop} (k : PostT N w H0 B ow H σ ρ Q' Q) (s : Ex w.S H H') (i : ∀ d, Q2 d → Q' d) : PostT N w H0 B ow H' σ ρ Q2 Q := fun v H2 r s2 q => k v H2 r (Ex.trans s s2) (i v q)
theorem Rel.x0 (r : Rel N.K N.c w H0 B ow H σ ρ) : Ex w.S H H := r.exOf (Same.refl _)
theorem sim_test {t : TE} {p : PEx} (h : SimE N t p) : SimT N (tTest t) (pTest p) := by
  intro w H0 B aw ow H σ ρ Q Q' r q k
  refine h w H0 B aw ow H σ ρ _ _ r q fun v d H1 r1 s1 h1 ⟨b, e, q1⟩ => ?_
  subst e; cases h1
  exact ⟨b, rfl, k b H1 r1 s1 q1⟩
theorem truV_of {K : PySem.W.Frag} {c : CEnv} {S : Option Addr} {G : Hp} {v : V} {d : Da} {b : Bool} (h : Rp K c S G v d) (t : truD d b) : TruV K v G b := by
  cases d with
  | non => cases h; exact t
  | bl _ => cases h; exact t
  | int _ => cases h; exact t
  | str _ => cases h; exact ⟨Nat.le_trans t.1 (by decide), t.2⟩
  | lst l =>
    obtain ⟨a, xs, rfl, e, rr⟩ := rpL h
    have := rpsLen rr
    refine .inl ⟨xs, SqL.of e, ?_⟩
    rw [show b = !l.isEmpty from t]
    cases xs <;> cases l <;> first | rfl | (simp at this)
  | tup l =>
    obtain ⟨a, xs, rfl, e, rr⟩ := rpT h
    have := rpsLen rr
    refine .inr (.inl ⟨xs, e, ?_⟩)
    rw [show b = !l.isEmpty from t]
    cases xs <;> cases l <;> first | rfl | (simp at this)
  | _ => exact (show False from t).elim
theorem sim_tru {t : TE} {p : PEx} (h : SimE N t p) : SimT N (tTru N.K t) (pTru p) := by
  intro w H0 B aw ow H σ ρ Q Q' r q k
  refine h w H0 B aw ow H σ ρ _ _ r q fun v d H1 r1 s1 h1 ⟨b, e, q1⟩ => ?_
  exact ⟨b, truV_of (rpS hid_le h1) e, k b H1 r1 s1 q1⟩
theorem sim_and {t u : TT} {p q : PTe} (h : SimT N t p) (h' : SimT N u q) : SimT N (tAnd t u) (pAnd p q) := by
  intro w H0 B aw ow H σ ρ Q Q' r z k
  refine h w H0 B aw ow H σ ρ _ _ r z fun b H1 r1 s1 q1 => ?_
  cases b with
  | true => exact z_iteT (h' w H0 B aw ow H1 σ ρ _ _ r1 (by simpa using q1) (k.then s1 fun _ q => q))
  | false => exact z_iteF (k false H1 r1 s1 (by simpa using q1))
theorem sim_or {t u : TT} {p q : PTe} (h : SimT N t p) (h' : SimT N u q) : SimT N (tOr t u) (pOr p q) := by
  intro w H0 B aw ow H σ ρ Q Q' r z k
  refine h w H0 B aw ow H σ ρ _ _ r z fun b H1 r1 s1 q1 => ?_
  cases b with
  | true => exact z_iteT (k true H1 r1 s1 (by simpa using q1))
  | false => exact z_iteF (h' w H0 B aw ow H1 σ ρ _ _ r1 (by simpa using q1) (k.then s1 fun _ q => q))
theorem sim_not {t : TT} {p : PTe} (h : SimT N t p) : SimT N (tNot t) (pNot p) := by
  intro w H0 B aw ow H σ ρ Q Q' r z k
  exact h w H0 B aw ow H σ ρ _ _ r z fun b H1 r1 s1 q1 => k (!b) H1 r1 s1 q1
theorem sim_andV {t u : TE} {p q : PEx} (h : SimE N t p) (h' : SimE N u q) : SimE N (tAndV t u) (pAndV p q) := by
  intro w H0 B aw ow H σ ρ Q Q' r z k
  refine h w H0 B aw ow H σ ρ _ _ r z fun v d H1 r1 s1 h1 ⟨b, e, q1⟩ => ?_
  subst e; cases h1
  refine ⟨b, rfl, ?_⟩
  cases b with
  | true => exact z_iteT (h' w H0 B aw ow H1 σ ρ _ _ r1 (by simpa using q1) (k.then s1 fun _ q => q))
  | false => exact z_iteF (k _ _ H1 r1 s1 (.bl _) (by simpa using q1))
theorem sim_orV {t u : TE} {p q : PEx} (h : SimE N t p) (h' : SimE N u q) : SimE N (tOrV t u) (pOrV p q) := by
  intro w H0 B aw ow H σ ρ Q Q' r z k
  refine h w H0 B aw ow H σ ρ _ _ r z fun v d H1 r1 s1 h1 ⟨b, e, q1⟩ => ?_
  subst e; cases h1
  refine ⟨b, rfl, ?_⟩
  cases b with
  | true => exact z_iteT (k _ _ H1 r1 s1 (.bl _) (by simpa using q1))
  | false => exact z_iteF (h' w H0 B aw ow H1 σ ρ _ _ r1 (by simpa using q1) (k.then s1 fun _ q => q))
theorem sim_notV {t : TE} {p : PEx} (h : SimE N t p) : SimE N (tNotV t) (pNotV p) := by
  intro w H0 B aw ow H σ ρ Q Q' r z k
  refine h w H0 B aw ow H σ ρ _ _ r z fun v d H1 r1 s1 h1 ⟨b, e, q1⟩ => ?_
  subst e; cases h1
  exact ⟨b, rfl, k _ _ H1 r1 s1 (.bl _) q1⟩
theorem sim_if {t : TT} {a b : TE} {p : PTe} {pa pb : PEx} (h : SimT N t p) (ha : SimE N a pa) (hb : SimE N b pb) : SimE N (tIf t a b) (pIf p pa pb) := by
  intro w H0 B aw ow H σ ρ Q Q' r z k
  refine h w H0 B aw ow H σ ρ _ _ r z fun b H1 r1 s1 q1 => ?_
  cases b with
  | true => exact z_iteT (ha w H0 B aw ow H1 σ ρ _ _ r1 (by simpa using q1) (k.then s1 fun _ q => q))
  | false => exact z_iteF (hb w H0 B aw ow H1 σ ρ _ _ r1 (by simpa using q1) (k.then s1 fun _ q => q))
theorem sim_chain {r r' : R2} {q q' : PR2} {a b e : TE} {pa pb pe : PEx} (hr : SimR N r q) (hr' : SimR N r' q') (ha : SimE N a pa) (hb : SimE N b pb) (he : SimE N e pe) : SimE N (tChain r r' a b e) (pChain q q' pa pb pe) := by
  intro w H0 B aw ow H σ ρ Q Q' rr h k
  refine ha w H0 B aw ow H σ ρ _ _ rr h fun x dx H1 r1 s1 h1 q1 => ?_
  refine hb w H0 B aw ow H1 σ ρ _ _ r1 q1 fun y dy H2 r2 s2 h2 q2 => ?_
  refine hr w H0 B ow H2 σ ρ x y dx dy _ _ r2 (rpS (s2.dh r1) h1) h2 q2 fun z dz H3 r3 s3 h3 ⟨kk, e3, q3⟩ => ?_
  subst e3; cases h3
  refine ⟨kk, rfl, ?_⟩
  cases kk with
  | true =>
    refine z_iteT (he w H0 B aw ow H3 σ ρ _ _ r3 (by simpa using q3) fun u du H4 r4 s4 h4 q4 => ?_)
    exact hr' w H0 B ow H4 σ ρ y u dy du _ _ r4 (rpS ((Ex.trans s3 s4).dh r2) h2) h4 q4 (k.then (Ex.trans s1 (Ex.trans s2 (Ex.trans s3 s4))) fun _ q => q)
  | false => exact z_iteF (k _ _ H3 r3 (Ex.trans s1 (Ex.trans s2 s3)) (.bl _) (by simpa using q3))
/-! ### fields -/
def pFld (a : PEx) (f : Str) : PEx := fun ρ Q => a ρ fun d => ∃ x ks l y, d = .ins x ks l ∧ (ks.zip l).lookup f = some y ∧ Q y
theorem zip_lookup {K : PySem.W.Frag} {c : CEnv} {S : Option Addr} {G : Hp} {f : Str} {y : Da} : ∀ {ks : List Str} {l : List Da} {vs : List V}, RpA K c S G vs l → (ks.zip l).lookup f = some y → ks.contains f = true ∧ ∃ v, (ks.zip vs).lookup f = some v ∧ Rp K c S G v y
  | [], l, vs, _, h => by rw [List.zip_nil_left] at h; cases h
  | k :: ks, [], vs, _, h => by rw [List.zip_nil_right] at h; cases h
  | k :: ks, d :: l, vs, r, h => by
    obtain ⟨v, ws, rfl, a, b⟩ := rpsC r
    rw [List.zip_cons_cons, List.lookup_cons] at h ⊢
    by_cases e : (f == k) = true
    · rw [e] at h ⊢
      cases h
      exact ⟨by rw [List.contains_cons, e]; rfl, v, rfl, a⟩
    · have e : (f == k) = false := by simpa using e
      rw [e] at h ⊢
      obtain ⟨h1, u, h2, h3⟩ := zip_lookup b h
      exact ⟨by rw [List.contains_cons, h1, Bool.or_true], u, h2, h3⟩
theorem zip_lookup0 {f : Str} : ∀ {ks : List Str} {vs : List V}, ks.contains f = false → (ks.zip vs).lookup f = none
  | [], _, _ => by rw [List.zip_nil_left]; rfl
  | k :: ks, [], _ => by rw [List.zip_nil_right]; rfl
  | k :: ks, v :: vs, h => by
    rw [List.contains_cons, Bool.or_eq_false_iff] at h
    rw [List.zip_cons_cons, List.lookup_cons, h.1]
    exact zip_lookup0 h.2
theorem sim_fld {a : TE} {p : PEx} {f : Str} (h : SimE N a p) : SimE N (tFld N.K a f) (pFld p f) := by
  intro w H0 B aw ow H σ ρ Q Q' r z k
  refine h w H0 B aw ow H σ ρ _ _ r z fun v d H1 r1 s1 h1 ⟨x, ks, l, y, e, lk, q⟩ => ?_
  subst e
  obtain ⟨p, dx, xs, rfl, ok, e, hl, ra⟩ := rpO h1
  obtain ⟨hc, u, lu, ru⟩ := zip_lookup ra lk
  exact z_fld ok (hid_le _ _ e) lu hc (k _ _ H1 r1 s1 ru q)
/-! ### slices -/
abbrev POp := PEnv → (Option Int → Prop) → Prop
def SimO (N : Cn) (t : TO) (p : POp) : Prop := ∀ w H0 B, AdW N w H0 B → ∀ ow H σ ρ Q (Q' : Option Int → Prop), Rel N.K N.c w H0 B ow H σ ρ → p ρ Q' → (∀ i H', Rel N.K N.c w H0 B ow H' σ ρ → Ex w.S H H' → Q' i → Q i H') → t σ H Q
def pNoPart : POp := fun _ Q => Q none
def pPart (a : PEx) : POp := fun ρ Q => a ρ fun d => ∃ i, d = .int i ∧ Q (some i)
theorem sim_noPart : SimO N tNoPart pNoPart := fun w H0 B aw ow H σ ρ Q Q' r h k => k none H r r.x0 h
theorem sim_part {a : TE} {p : PEx} (h : SimE N a p) : SimO N (tPart a) (pPart p) := by
  intro w H0 B aw ow H σ ρ Q Q' r z k
  refine h w H0 B aw ow H σ ρ _ _ r z fun v d H1 r1 s1 h1 ⟨i, e, q⟩ => ?_
  subst e; cases h1
  exact ⟨i, rfl, k _ H1 r1 s1 q⟩
def cutD (xs : List Da) (lo hi : Option Int) : List Da := (xs.drop (HT.sIx xs.length 0 lo)).take (HT.sIx xs.length xs.length hi - HT.sIx xs.length 0 lo)
def slD (d : Da) (lo hi : Option Int) (Q : Da → Prop) : Prop := match d with
  | .lst xs => Q (.lst (cutD xs lo hi))
  | .tup xs => Q (.tup (cutD xs lo hi))
  | .str z => z.length ≤ 100000 ∧ Q (.str (cutS z lo hi))
  | _ => False
def pSl (a : PEx) (l h : POp) : PEx := fun ρ Q => a ρ fun d => l ρ fun lo => h ρ fun hi => slD d lo hi Q
theorem rps_cut {K : PySem.W.Frag} {c : CEnv} {S : Option Addr} {G : Hp} {vs : List V} {l : List Da} {lo hi : Option Int} (r : RpA K c S G vs l) : RpA K c S G (cutV vs lo hi) (cutD l lo hi) := by
  unfold cutV cutD
  rw [rpsLen r]
  exact rpsTake _ (rpsDrop _ r)
theorem sim_sl {a : TE} {tl th : TO} {p : PEx} {pl ph : POp} (ha : SimE N a p) (hl : SimO N tl pl) (hh : SimO N th ph) : SimE N (tSl (uSl N.K) a tl th) (pSl p pl ph) := by
  intro w H0 B aw ow H σ ρ Q Q' r z k
  refine ha w H0 B aw ow H σ ρ _ _ r z fun v d H1 r1 s1 h1 q1 => ?_
  refine hl w H0 B aw ow H1 σ ρ _ _ r1 q1 fun lo H2 r2 s2 q2 => ?_
  refine hh w H0 B aw ow H2 σ ρ _ _ r2 q2 fun hi H3 r3 s3 q3 => ?_
  have h3 := rpS ((Ex.trans s2 s3).dh r1) h1
  have k3 := k.then (Ex.trans s1 (Ex.trans s2 s3)) fun _ q => q
  cases d <;> first | exact q3.elim | skip
  · cases h3; exact ⟨Nat.le_trans q3.1 (by decide), k3.flat r3 (.str _) q3.2⟩
  · have h3' := h3
    obtain ⟨p, xs, rfl, e, rr⟩ := rpT h3
    refine .inr ⟨p, xs, rfl, Same.sqT hid_le e, fun hw => ?_, fun _ l hl => k3.newT r3 (rps_cut rr) q3 hl⟩
    refine k3.flat r3 h3' ?_
    rename_i ds
    have : cutD ds lo hi = ds := by
      unfold cutD
      rw [← rpsLen rr, hw.1, hw.2, List.drop_zero, Nat.sub_zero, rpsLen rr, List.take_length]
    rw [← this]; exact q3
  · obtain ⟨p, xs, rfl, e, rr⟩ := rpL h3
    exact z_slL (SqL.of (hid_le _ _ e)) fun l hl => k3.newL r3 (rps_cut rr) q3 hl
/-! ### calls -/
def SpSim (K : PySem.W.Frag) (c : CEnv) (sp : Sp) (ps : PSp) : Prop := ∀ (S : Option (Addr × Addr)) (O : List Addr) (H : Hp) (vs : List V) (ds : List Da) (Q : VK) (E : XK) (Q' : Da → Prop) (E' : Str → Prop),
  Occ H O → (∀ st L, S = some (st, L) → Draw H st L ∧ st ∈ O) → RpA K c (S.map (·.1)) (hid H O) vs ds → ps ds Q' E' → (∀ v d H', Ex S H H' → Rp K c (S.map (·.1)) (hid H' O) v d → Q' d → Q v H') → (∀ x H', Ex S H H' → E' x → E (.ref (c.cls x)) none H') → sp vs H Q E
/-- a promise about data -/
def lift (K : PySem.W.Frag) (c : CEnv) (ps : PSp) : Sp := fun vs H Q E => ∃ (S : Option (Addr × Addr)) (O : List Addr) (ds : List Da) (Q' : Da → Prop) (E' : Str → Prop),
  Occ H O ∧ (∀ st L, S = some (st, L) → Draw H st L ∧ st ∈ O) ∧ RpA K c (S.map (·.1)) (hid H O) vs ds ∧ ps ds Q' E' ∧ (∀ v d H', Ex S H H' → Rp K c (S.map (·.1)) (hid H' O) v d → Q' d → Q v H') ∧ (∀ x H', Ex S H H' → E' x → E (.ref (c.cls x)) none H')
theorem spSim_lift {K : PySem.W.Frag} {c : CEnv} {ps : PSp} : SpSim K c (lift K c ps) ps := fun S O H vs ds Q E Q' E' a b r p q e => ⟨S, O, ds, Q', E', a, b, r, p, q, e⟩
theorem call_go {sp : Sp} {ps : PSp} (hs : SpSim N.K N.c sp ps) {vs : List V} {ds : List Da} {Q : VK} {E : XK} {Q' : Da → Prop} {E' : Str → Prop} (r : Rel N.K N.c w H0 B ow H σ ρ) (h : RpA N.K N.c w.st (dh w ow H) vs ds) (p : ps ds Q' E') (k : Post N w H0 B ow H σ ρ Q' Q)
    (e : ∀ x H', Rel N.K N.c w H0 B ow H' σ ρ → E' x → E (.ref (N.c.cls x)) none H') : sp vs H Q E :=
  hs w.S (hl w ow) H vs ds Q E Q' E' r.occ (fun st L z => ⟨(r.dr st L z).1, r.stO st L z⟩) h p (fun v d H' x rv q => k v d H' (r.ex x) x rv q) (fun x H' ex z => e x H' (r.ex ex) z)
def pCal (ps : PSp) (t : PAr) : PEx := fun ρ Q => t ρ fun ds => ps ds Q fun _ => False
def pCalS (Wp : WP) (ps : PSp) (t : PAr) : PEx := fun ρ Q => t ρ fun ds => ps ds Q fun x => Wp x ρ
theorem sim_cal {sp : Sp} {ps : PSp} {t : TA} {pt : PAr} (hs : SpSim N.K N.c sp ps) (ht : SimA N t pt) : SimE N (tCal sp t) (pCal ps pt) := by
  intro w H0 B aw ow H σ ρ Q Q' r z k
  refine ht w H0 B aw ow H σ ρ _ _ r z fun vs ds H1 r1 s1 h1 q1 => ?_
  exact call_go hs r1 h1 q1 (k.then s1 fun _ q => q) (fun _ _ _ f => f.elim)
theorem sim_calS {sp : Sp} {ps : PSp} {t : TA} {pt : PAr} (hs : SpSim N.K N.c sp ps) (ht : SimA N t pt) : SimE N (tCallS sp (WE N.W) t) (pCalS N.Wp ps pt) := by
  intro w H0 B aw ow H σ ρ Q Q' r z k
  refine ht w H0 B aw ow H σ ρ _ _ r z fun vs ds H1 r1 s1 h1 q1 => ?_
  exact call_go hs r1 h1 q1 (k.then s1 fun _ q => q) (fun x H' r' f => aw x ow H' σ ρ r' f)
def pMt (x m : Str) (ps : PSp) (a : PEx) (t : PAr) : PEx := fun ρ Q => a ρ fun d => ∃ ks l, d = .ins x ks l ∧ ks.contains m = false ∧ t ρ fun ds => ps (d :: ds) Q fun _ => False
def pMtX (Wp : WP) (x m : Str) (ps : PSp) (a : PEx) (t : PAr) : PEx := fun ρ Q => a ρ fun d => ∃ ks l, d = .ins x ks l ∧ ks.contains m = false ∧ t ρ fun ds => ps (d :: ds) Q fun x => Wp x ρ
def pPr (x : Str) (ps : PSp) (a : PEx) : PEx := fun ρ Q => a ρ fun d => ∃ ks l, d = .ins x ks l ∧ ps [d] Q fun _ => False
theorem sim_mt {x m : Str} {sp : Sp} {ps : PSp} {a : TE} {t : TA} {p : PEx} {pt : PAr} (hs : SpSim N.K N.c sp ps) (ha : SimE N a p) (ht : SimA N t pt) : SimE N (tMt N.c x m sp a t) (pMt x m ps p pt) := by
  intro w H0 B aw ow H σ ρ Q Q' r z k
  refine ha w H0 B aw ow H σ ρ _ _ r z fun v d H1 r1 s1 h1 ⟨ks, l, e, hc, q1⟩ => ?_
  subst e
  have h1' := h1
  obtain ⟨b, dx, xs, rfl, ok, e, hl, ra⟩ := rpO h1
  refine ⟨b, dx, _, rfl, hid_le _ _ e, zip_lookup0 hc, ?_⟩
  refine ht w H0 B aw ow H1 σ ρ _ _ r1 q1 fun vs ds H2 r2 s2 h2 q2 => ?_
  exact call_go hs r2 (.cons (rpS (s2.dh r1) h1') h2) q2 (k.then (Ex.trans s1 s2) fun _ q => q) (fun _ _ _ f => f.elim)
theorem sim_mtX {x m : Str} {sp : Sp} {ps : PSp} {a : TE} {t : TA} {p : PEx} {pt : PAr} (hs : SpSim N.K N.c sp ps) (ha : SimE N a p) (ht : SimA N t pt) : SimE N (tMtX N.c x m sp N.W a t) (pMtX N.Wp x m ps p pt) := by
  intro w H0 B aw ow H σ ρ Q Q' r z k
  refine ha w H0 B aw ow H σ ρ _ _ r z fun v d H1 r1 s1 h1 ⟨ks, l, e, hc, q1⟩ => ?_
  subst e
  have h1' := h1
  obtain ⟨b, dx, xs, rfl, ok, e, hl, ra⟩ := rpO h1
  refine ⟨b, dx, _, rfl, hid_le _ _ e, zip_lookup0 hc, ?_⟩
  refine ht w H0 B aw ow H1 σ ρ _ _ r1 q1 fun vs ds H2 r2 s2 h2 q2 => ?_
  exact call_go hs r2 (.cons (rpS (s2.dh r1) h1') h2) q2 (k.then (Ex.trans s1 s2) fun _ q => q) (fun x H' r' f => aw x ow H' σ ρ r' f)
theorem sim_pr {x : Str} {sp : Sp} {ps : PSp} {a : TE} {p : PEx} (hs : SpSim N.K N.c sp ps) (ha : SimE N a p) : SimE N (tPr N.c x sp a) (pPr x ps p) := by
  intro w H0 B aw ow H σ ρ Q Q' r z k
  refine ha w H0 B aw ow H σ ρ _ _ r z fun v d H1 r1 s1 h1 ⟨ks, l, e, q1⟩ => ?_
  subst e
  have h1' := h1
  obtain ⟨b, dx, xs, rfl, ok, e, hl, ra⟩ := rpO h1
  exact ⟨b, dx, _, rfl, hid_le _ _ e, call_go hs r1 (.cons h1' .nil) q1 (k.then s1 fun _ q => q) (fun _ _ _ f => f.elim)⟩
/-! ### making -/
def SpSimI (K : PySem.W.Frag) (c : CEnv) (x : Str) (gs : List Str) (sp : Sp) (ps : PSi) : Prop := ∀ (S : Option (Addr × Addr)) (O : List Addr) (H : Hp) (p dx : Addr) (vs : List V) (ds : List Da) (Q : VK) (E : XK) (Q' : List Da → Prop) (E' : Str → Prop),
  Occ H O → (∀ st L, S = some (st, L) → Draw H st L ∧ st ∈ O ∧ p ≠ st ∧ p ≠ L) → ClsOk K c x gs → H p = some (.ins (c.cls x) dx []) → p ∉ O → RpA K c (S.map (·.1)) (hid H (p :: O)) vs ds → ps ds Q' E' →
  (∀ l H', (∀ a o, (∀ st L, S = some (st, L) → a ≠ st) → a ≠ p → H a = some o → H' a = some o) → (∀ st L, S = some (st, L) → Draw H' st L) → Rp K c (S.map (·.1)) (hid H' O) (.ref p) (.ins x gs l) → Q' l → Q .non H') →
  (∀ y H', (∀ a o, (∀ st L, S = some (st, L) → a ≠ st) → a ≠ p → H a = some o → H' a = some o) → (∀ st L, S = some (st, L) → Draw H' st L) → E' y → E (.ref (c.cls y)) none H') → sp (.ref p :: vs) H Q E
def liftI (K : PySem.W.Frag) (c : CEnv) (x : Str) (gs : List Str) (ps : PSi) : Sp := fun us H Q E => ∃ (S : Option (Addr × Addr)) (O : List Addr) (p dx : Addr) (vs : List V) (ds : List Da) (Q' : List Da → Prop) (E' : Str → Prop),
  us = .ref p :: vs ∧ Occ H O ∧ (∀ st L, S = some (st, L) → Draw H st L ∧ st ∈ O ∧ p ≠ st ∧ p ≠ L) ∧ ClsOk K c x gs ∧ H p = some (.ins (c.cls x) dx []) ∧ p ∉ O ∧ RpA K c (S.map (·.1)) (hid H (p :: O)) vs ds ∧ ps ds Q' E' ∧
  (∀ l H', (∀ a o, (∀ st L, S = some (st, L) → a ≠ st) → a ≠ p → H a = some o → H' a = some o) → (∀ st L, S = some (st, L) → Draw H' st L) → Rp K c (S.map (·.1)) (hid H' O) (.ref p) (.ins x gs l) → Q' l → Q .non H') ∧
  (∀ y H', (∀ a o, (∀ st L, S = some (st, L) → a ≠ st) → a ≠ p → H a = some o → H' a = some o) → (∀ st L, S = some (st, L) → Draw H' st L) → E' y → E (.ref (c.cls y)) none H')
theorem spSimI_lift {K : PySem.W.Frag} {c : CEnv} {x : Str} {gs : List Str} {ps : PSi} : SpSimI K c x gs (liftI K c x gs ps) ps := fun S O H p dx vs ds Q E Q' E' a b ok hp np r z q e => ⟨S, O, p, dx, vs, ds, Q', E', rfl, a, b, ok, hp, np, r, z, q, e⟩
theorem make_go {x : Str} {gs : List Str} {sp : Sp} {ps : PSi} (hs : SpSimI N.K N.c x gs sp ps) {vs : List V} {ds : List Da} {Q : VK} {E : XK} {Q' : List Da → Prop} {E' : Str → Prop} {p dx : Addr} (ok : ClsOk N.K N.c x gs) (r : Rel N.K N.c w H0 B ow H σ ρ) (h : RpA N.K N.c w.st (dh w ow H) vs ds)
    (hp : H p = none) (hdx : H dx = none) (ne : dx ≠ p) (z : ps ds Q' E') (k : Post N w H0 B ow H σ ρ (fun d => ∃ l, d = .ins x gs l ∧ Q' l) Q) (e : ∀ y H', Rel N.K N.c w H0 B ow H' σ ρ → E' y → E (.ref (N.c.cls y)) none H') :
    sp (.ref p :: vs) (upd (upd H dx (.own p)) p (.ins (N.c.cls x) dx [])) (fun v H2 => v = .non ∧ Q (.ref p) H2) E := by
  have hp2 : upd H dx (.own p) p = none := by rw [upd_ne ne.symm]; exact hp
  have s1 : Same H (upd (upd H dx (.own p)) p (.ins (N.c.cls x) dx [])) := Same.new hp2 (Same.new hdx (Same.refl H))
  have back : ∀ H', (∀ a o, (∀ st L, w.S = some (st, L) → a ≠ st) → a ≠ p → upd (upd H dx (.own p)) p (.ins (N.c.cls x) dx []) a = some o → H' a = some o) → (∀ st L, w.S = some (st, L) → Draw H' st L) → Ex w.S H H' := fun H' h1 h2 => ⟨fun a o n ea => h1 a o n (fun z => by subst z; rw [hp] at ea; cases ea) (s1 a o ea), h2⟩
  refine hs w.S (hl w ow) _ p dx vs ds _ E Q' E' (r.occ.same s1) (fun st L q => ⟨(r.dr st L q).1.same s1, r.stO st L q, Draw.ne hp (r.dr st L q).1, Draw.neL hp (r.dr st L q).1⟩) ok upd_same (r.occ.no hp) (rpsS (hid_ofS hp s1) h) z (fun l H' h1 h2 rp q => ⟨rfl, ?_⟩) (fun y H' h1 h2 q => e y H' (r.ex (back H' h1 h2)) q)
  exact k _ _ H' (r.ex (back H' h1 h2)) (back H' h1 h2) rp ⟨l, rfl, q⟩
def pMk (x : Str) (gs : List Str) (ps : PSi) (t : PAr) : PEx := fun ρ Q => t ρ fun ds => ps ds (fun l => Q (.ins x gs l)) fun _ => False
def pMkX (Wp : WP) (x : Str) (gs : List Str) (ps : PSi) (t : PAr) : PEx := fun ρ Q => t ρ fun ds => ps ds (fun l => Q (.ins x gs l)) fun y => Wp y ρ
theorem sim_mk {x : Str} {gs : List Str} {sp : Sp} {ps : PSi} {t : TA} {pt : PAr} (hs : SpSimI N.K N.c x gs sp ps) (ht : SimA N t pt) : SimE N (tMk N.K N.c x gs sp t) (pMk x gs ps pt) := by
  intro w H0 B aw ow H σ ρ Q Q' r z k
  refine ht w H0 B aw ow H σ ρ _ _ r z fun vs ds H1 r1 s1 h1 q1 ok p dx hp hdx ne => ?_
  exact make_go hs ok r1 h1 hp hdx ne q1 (k.then s1 fun d ⟨l, e, q⟩ => e ▸ q) (fun _ _ _ f => f.elim)
theorem sim_mkX {x : Str} {gs : List Str} {sp : Sp} {ps : PSi} {t : TA} {pt : PAr} (hs : SpSimI N.K N.c x gs sp ps) (ht : SimA N t pt) : SimE N (tMkX N.K N.c x gs sp N.W t) (pMkX N.Wp x gs ps pt) := by
  intro w H0 B aw ow H σ ρ Q Q' r z k
  refine ht w H0 B aw ow H σ ρ _ _ r z fun vs ds H1 r1 s1 h1 q1 ok p dx hp hdx ne => ?_
  exact make_go hs ok r1 h1 hp hdx ne q1 (k.then s1 fun d ⟨l, e, q⟩ => e ▸ q) (fun y H' r' f => aw y ow H' σ ρ r' f)
/-- constants that are lacking -/
def cstD : Cst → Da
  | .v .non => .non | .v (.bl b) => .bl b | .v (.int i) => .int i | .v (.str x) => .str x | .v _ => .non
  | .e => .tup []
def cstOk : Cst → Bool
  | .v .non => true | .v (.bl b) => true | .v (.int i) => true | .v (.str x) => true | .v _ => false
  | .e => true
theorem cst_rp {K : PySem.W.Frag} {c : CEnv} {S : Option Addr} {G : Hp} : ∀ {ms : List Cst} {vs : List V}, All2 (Cst.Is K) ms vs → ms.all cstOk = true → RpA K c S G vs (ms.map cstD)
  | [], _, h, _ => by cases h; exact .nil
  | m :: ms, _, h, o => by
    rw [List.all_cons, Bool.and_eq_true] at o
    cases h with
    | cons h t =>
      refine .cons ?_ (cst_rp t o.2)
      cases m with
      | v y =>
        have h : _ = y := h
        rw [h]
        clear h
        cases y <;> first | (cases o.1; done) | (constructor; done)
      | e => obtain ⟨T, rfl, e⟩ := h; exact .tup (e G) .nil
theorem gSel_rp {K : PySem.W.Frag} {c : CEnv} {S : Option Addr} {G : Hp} (sel : List (Bool × Nat)) {vs mz zs : List V} {ds dm dz : List Da} (h1 : RpA K c S G vs ds) (h2 : RpA K c S G mz dm) (h3 : RpA K c S G zs dz) : RpA K c S G (gSel sel vs mz zs) (gSel sel ds dm dz) := by
  unfold gSel
  refine rpsApp h1 ?_
  have one : ∀ {xs : List V} {as : List Da} (i : Nat), RpA K c S G xs as → (xs[i]? = none ∧ as[i]? = none) ∨ ∃ x a, xs[i]? = some x ∧ as[i]? = some a ∧ Rp K c S G x a := by
    intro xs as i r
    cases e : xs[i]? with
    | none =>
      refine .inl ⟨rfl, ?_⟩
      rw [List.getElem?_eq_none_iff] at e ⊢
      rw [← rpsLen r]; exact e
    | some x => obtain ⟨a, ea, ra⟩ := rpsGetV r e; exact .inr ⟨x, a, rfl, ea, ra⟩
  induction sel with
  | nil => exact .nil
  | cons z t ih =>
    obtain ⟨b, i⟩ := z
    cases b with
    | true =>
      rcases one i h3 with ⟨e1, e2⟩ | ⟨x, a, e1, e2, r⟩
      · simp only [List.filterMap_cons, if_pos, e1, e2]; exact ih
      · simp only [List.filterMap_cons, if_pos, e1, e2]; exact .cons r ih
    | false =>
      rcases one i h2 with ⟨e1, e2⟩ | ⟨x, a, e1, e2, r⟩
      · simp only [List.filterMap_cons, Bool.false_eq_true, if_false, e1, e2]; exact ih
      · simp only [List.filterMap_cons, Bool.false_eq_true, if_false, e1, e2]; exact .cons r ih
/-- how values, constants and keywords stand behind self -/
def selD (sel : List (Bool × Nat)) (ms : List Cst) (ds dz : List Da) : List Da := gSel sel ds (ms.map cstD) dz
def pMkK (Wp : WP) (x : Str) (gs : List Str) (n nk : Nat) (ms : List Cst) (sel : List (Bool × Nat)) (ps : PSi) (t tk : PAr) : PEx := fun ρ Q => t ρ fun ds => tk ρ fun dz => ds.length = n ∧ dz.length = nk ∧ ps (selD sel ms ds dz) (fun l => Q (.ins x gs l)) fun y => Wp y ρ
theorem sim_mkK {x : Str} {gs : List Str} {n nk : Nat} {ms : List Cst} {sel : List (Bool × Nat)} {sp : Sp} {ps : PSi} {t tk : TA} {pt pk : PAr} (hs : SpSimI N.K N.c x gs sp ps) (ht : SimA N t pt) (hk : SimA N tk pk) (hm : ms.all cstOk = true := by rfl) : SimE N (tMkK N.K N.c x gs n nk ms sel sp N.W t tk) (pMkK N.Wp x gs n nk ms sel ps pt pk) := by
  intro w H0 B aw ow H σ ρ Q Q' r z k
  refine ht w H0 B aw ow H σ ρ _ _ r z fun vs ds H1 r1 s1 h1 q1 => ?_
  refine hk w H0 B aw ow H1 σ ρ _ _ r1 q1 fun zs dz H2 r2 s2 h2 q2 => ?_
  obtain ⟨l1, l2, q2⟩ := q2
  refine ⟨(rpsLen h1).trans l1, (rpsLen h2).trans l2, fun ok us hus p dx hp hdx ne => ?_⟩
  have rr := gSel_rp sel (rpsS (s2.dh r1) h1) (cst_rp (c := N.c) (S := w.st) (G := dh w ow H2) hus hm) h2
  rw [show gSel sel (V.ref p :: vs) us zs = V.ref p :: gSel sel vs us zs from rfl]
  exact make_go hs ok r2 rr hp hdx ne q2 (k.then (Ex.trans s1 s2) fun d ⟨l, e, q⟩ => e ▸ q) (fun y H' r' f => aw y ow H' σ ρ r' f)
end

/-! ### targets -/
abbrev PTgs := List Da → PEnv → (PEnv → Prop) → Prop
def SimGs (N : Cn) (g : TGs) (sl : List Nat) (pg : PTgs) : Prop := ∀ w H0 B ow H σ ρ vs ds Q Q', Rel N.K N.c w H0 B ow H σ ρ → RpA N.K N.c w.st (dh w ow H) vs ds → pg ds ρ Q' → (∀ σ' ρ', Rel N.K N.c w H0 B ow H σ' ρ' → (∀ us, (∀ i ∈ sl, i ∈ us) → wipe σ' us = wipe σ us) → Q' ρ' → Q σ' H) → g vs σ H Q
def pgName (i : Nat) : PTg := fun d ρ Q => Q (ρ.set i (some (.d d)))
def pgNil : PTgs := fun ds ρ Q => ds = [] ∧ Q ρ
def pgCons (g : PTg) (t : PTgs) : PTgs := fun ds ρ Q => ∃ d r, ds = d :: r ∧ g d ρ fun ρ' => t r ρ' Q
def pgTup (n : Nat) (t : PTgs) : PTg := fun d ρ Q => ∃ ds, d = .tup ds ∧ ds.length = n ∧ t ds ρ Q
theorem wipe_mem {σ : L2.St} {i : Nat} {x : Option V} : ∀ {us : List Nat}, i ∈ us → wipe (σ.set i x) us = wipe σ us
  | [], h => by cases h
  | u :: us, h => by
    unfold wipe
    by_cases e : i ∈ us
    · rw [wipe_mem e]
    · rcases List.mem_cons.mp h with rfl | h
      · have : ∀ us : List Nat, i ∉ us → wipe (σ.set i x) us = (wipe σ us).set i x := by
          intro us
          induction us with
          | nil => intro _; rfl
          | cons v vs ih =>
            intro hv
            unfold wipe
            rw [ih fun z => hv (List.mem_cons_of_mem _ z), List.set_comm _ _ (fun z => hv (by subst z; exact List.mem_cons_self ..))]
        rw [this us e, List.set_set]
      · exact absurd h e
theorem wipe_wipe {σ : L2.St} {us : List Nat} : wipe (wipe σ us) us = wipe σ us := by
  have : ∀ (vs : List Nat), (∀ v ∈ vs, v ∈ us) → wipe (wipe σ vs) us = wipe σ us := by
    intro vs
    induction vs with
    | nil => intro _; rfl
    | cons v vs ih =>
      intro h
      rw [show wipe σ (v :: vs) = (wipe σ vs).set v none from rfl, wipe_mem (h v (List.mem_cons_self ..)), ih fun u hu => h u (List.mem_cons_of_mem _ hu)]
  exact this us fun _ h => h
section
variable {N : Cn} {w : Pw} {H0 B H H' : Hp} {ow : Ow} {σ : L2.St} {ρ : PEnv}
theorem sim_gName (i : Nat) : SimG N (gName i) [i] (pgName i) := by
  intro w H0 B ow H σ ρ v d Q Q' r h q k
  exact k _ _ (r.set i h) (fun us hu => wipe_mem (hu i (List.mem_cons_self ..))) q
theorem sim_gNil : SimGs N gNil [] pgNil := by
  intro w H0 B ow H σ ρ vs ds Q Q' r h q k
  obtain ⟨rfl, q⟩ := q
  exact ⟨rps0 h, k _ _ r (fun _ _ => rfl) q⟩
theorem sim_gCons {g : TG} {sl sl2 : List Nat} {pg : PTg} {t : TGs} {pt : PTgs} (hg : SimG N g sl pg) (ht : SimGs N t sl2 pt) : SimGs N (gCons g t) (sl ++ sl2) (pgCons pg pt) := by
  intro w H0 B ow H σ ρ vs ds Q Q' r h q k
  obtain ⟨d, ds', rfl, q⟩ := q
  obtain ⟨v, ws, rfl, a, b⟩ := rpsC h
  refine ⟨v, ws, rfl, hg w H0 B ow H σ ρ v d _ _ r a q fun σ1 ρ1 r1 w1 q1 => ?_⟩
  exact ht w H0 B ow H σ1 ρ1 ws ds' _ _ r1 b q1 fun σ2 ρ2 r2 w2 q2 => k σ2 ρ2 r2 (fun us hu => (w2 us fun i hi => hu i (List.mem_append_right _ hi)).trans (w1 us fun i hi => hu i (List.mem_append_left _ hi))) q2
theorem sim_gTup {n : Nat} {t : TGs} {sl : List Nat} {pt : PTgs} (ht : SimGs N t sl pt) : SimG N (gTup N.K n t) sl (pgTup n pt) := by
  intro w H0 B ow H σ ρ v d Q Q' r h q k
  obtain ⟨ds, rfl, hl, q⟩ := q
  obtain ⟨a, xs, rfl, e, rr⟩ := rpT h
  exact ⟨a, xs, rfl, Same.sqT hid_le e, (rpsLen rr).trans hl, ht w H0 B ow H σ ρ xs ds _ _ r rr q k⟩
/-! ### what is walked -/
structure JOk (K : PySem.W.Frag) (c : CEnv) (S : Option Addr) (J : It) (G : Hp) (items : List Da) : Prop where
  stop : ∀ i H, items.length = i → Same G H → J.stop i H
  go : ∀ i H, i < items.length → Same G H → J.go i H
  yld : ∀ i H x H' d, items[i]? = some d → Same G H → J.yld i H x H' → Same H H' ∧ ∀ O, Occ H O → Same G (hid H O) → Rp K c S (hid H' O) x d
abbrev PIt := PEnv → (List Da → Prop) → Prop
def SimI (N : Cn) (wi : TI) (p : PIt) : Prop := ∀ w H0 B, AdW N w H0 B → ∀ ow H σ ρ (R : It → Hp → Prop) Q', Rel N.K N.c w H0 B ow H σ ρ → p ρ Q' → (∀ J items H', Rel N.K N.c w H0 B ow H' σ ρ → Ex w.S H H' → JOk N.K N.c w.st J (dh w ow H') items → Q' items → R J H') → wi σ H R
theorem jok_l {K : PySem.W.Frag} {c : CEnv} {S : Option Addr} {G : Hp} {a : Addr} {xs : List V} {ds : List Da} (e : G a = some (.lst xs)) (r : RpA K c S G xs ds) : JOk K c S (Itl K a) G ds := by
  have hl := rpsLen r
  refine ⟨fun i H h s => ⟨xs, SqL.of (s _ _ e), by omega⟩, fun i H h s => ?_, fun i H x H' d hd s y => ?_⟩
  · have h1 : i < xs.length := by omega
    exact ⟨xs, xs[i], SqL.of (s _ _ e), by simp [h1]⟩
  · obtain ⟨rfl, f⟩ := y
    obtain ⟨v, hv, rv⟩ := rpsGet r hd
    have := f xs (SqL.of (s _ _ e))
    rw [hv] at this
    cases this
    exact ⟨Same.refl _, fun O _ t => rpS t rv⟩
theorem jok_t {K : PySem.W.Frag} {c : CEnv} {S : Option Addr} {G : Hp} {a : Addr} {xs : List V} {ds : List Da} (e : SqT K G a xs) (r : RpA K c S G xs ds) : JOk K c S (Itt K a) G ds := by
  have hl := rpsLen r
  refine ⟨fun i H h s => ⟨xs, Same.sqT s e, by omega⟩, fun i H h s => ?_, fun i H x H' d hd s y => ?_⟩
  · have h1 : i < xs.length := by omega
    exact ⟨xs, xs[i], Same.sqT s e, by simp [h1]⟩
  · obtain ⟨rfl, f⟩ := y
    obtain ⟨v, hv, rv⟩ := rpsGet r hd
    have := f xs (Same.sqT s e)
    rw [hv] at this
    cases this
    exact ⟨Same.refl _, fun O _ t => rpS t rv⟩
def piSq (p : PEx) : PIt := fun ρ Q => p ρ fun d => ∃ l, (d = .lst l ∨ d = .tup l) ∧ Q l
theorem sim_iSq {t : TE} {p : PEx} (h : SimE N t p) : SimI N (iSq N.K t) (piSq p) := by
  intro w H0 B aw ow H σ ρ R Q' r q k
  refine h w H0 B aw ow H σ ρ _ _ r q fun v d H1 r1 x1 h1 ⟨l, e, q1⟩ => ?_
  rcases e with rfl | rfl
  · obtain ⟨a, xs, rfl, e, rr⟩ := rpL h1
    exact ⟨a, rfl, .inl ⟨⟨xs, SqL.of (hid_le _ _ e)⟩, k _ _ H1 r1 x1 (jok_l e rr) q1⟩⟩
  · obtain ⟨a, xs, rfl, e, rr⟩ := rpT h1
    exact ⟨a, rfl, .inr ⟨⟨xs, Same.sqT hid_le e⟩, k _ _ H1 r1 x1 (jok_t e rr) q1⟩⟩
def rngD (lo : Int) (n : Nat) : List Da := (List.range n).map fun (i : Nat) => Da.int (lo + (i : Int))
theorem rngD_len {lo : Int} {n : Nat} : (rngD lo n).length = n := by unfold rngD; rw [List.length_map, List.length_range]
theorem rngD_get {lo : Int} {n i : Nat} {d : Da} (h : (rngD lo n)[i]? = some d) : i < n ∧ d = .int (lo + (i : Int)) := by
  unfold rngD at h
  rw [List.getElem?_map] at h
  by_cases l : i < n
  · rw [List.getElem?_range l] at h
    cases h; exact ⟨l, rfl⟩
  · rw [List.getElem?_eq_none (by simpa using l)] at h; cases h
def piRng1 (p : PAr) : PIt := fun ρ Q => p ρ fun ds => ∃ j : Int, ds = [.int j] ∧ -1000000 ≤ j ∧ j ≤ 1000000 ∧ Q (rngD 0 j.toNat)
def piRng2 (p : PAr) : PIt := fun ρ Q => p ρ fun ds => ∃ i j : Int, ds = [.int i, .int j] ∧ (-1000000 ≤ i ∧ i ≤ 1000000 ∧ -1000000 ≤ j ∧ j ≤ 1000000) ∧ Q (rngD i (j - i).toNat)
theorem jok_r {K : PySem.W.Frag} {c : CEnv} {S : Option Addr} {G : Hp} {lo : Int} {n : Nat} : JOk K c S (Itr lo n) G (rngD lo n) := by
  refine ⟨fun i H h s => by rw [rngD_len] at h; exact Nat.le_of_eq h, fun i H h s => by rw [rngD_len] at h; exact h, fun i H x H' d hd s y => ?_⟩
  obtain ⟨rfl, rfl⟩ := y
  obtain ⟨_, rfl⟩ := rngD_get hd
  exact ⟨Same.refl _, fun O _ t => .int _⟩
theorem sim_iRng1 {t : TA} {p : PAr} (h : SimA N t p) : SimI N (iRng1 t) (piRng1 p) := by
  intro w H0 B aw ow H σ ρ R Q' r q k
  refine h w H0 B aw ow H σ ρ _ _ r q fun vs ds H1 r1 x1 h1 ⟨j, e, b1, b2, q1⟩ => ?_
  subst e
  obtain ⟨v, rfl, a⟩ := rps1 h1
  cases a
  exact ⟨j, rfl, by omega, by omega, k _ _ H1 r1 x1 jok_r q1⟩
theorem sim_iRng2 {t : TA} {p : PAr} (h : SimA N t p) : SimI N (iRng2 t) (piRng2 p) := by
  intro w H0 B aw ow H σ ρ R Q' r q k
  refine h w H0 B aw ow H σ ρ _ _ r q fun vs ds H1 r1 x1 h1 ⟨i, j, e, b1, q1⟩ => ?_
  subst e
  obtain ⟨v, u, rfl, a, b⟩ := rps2 h1
  cases a; cases b
  exact ⟨i, j, rfl, by omega, k _ _ H1 r1 x1 jok_r q1⟩
def zipD (a b : List Da) : List Da := (a.zip b).map fun z => .tup [z.1, z.2]
theorem zipD_get {a b : List Da} {i : Nat} {d : Da} (h : (zipD a b)[i]? = some d) : ∃ x y, a[i]? = some x ∧ b[i]? = some y ∧ d = .tup [x, y] := by
  unfold zipD at h
  rw [List.getElem?_map] at h
  cases e : (a.zip b)[i]? with
  | none => rw [e] at h; cases h
  | some z =>
    rw [e] at h
    obtain ⟨h1, h2⟩ := List.getElem?_zip_eq_some.mp e
    exact ⟨z.1, z.2, h1, h2, (Option.some.inj h).symm⟩
theorem zipD_len {a b : List Da} : (zipD a b).length = min a.length b.length := by unfold zipD; rw [List.length_map, List.length_zip]
def piZip (p : PAr) : PIt := fun ρ Q => p ρ fun ds => ∃ a b, (ds = [.lst a, .lst b] ∨ ds = [.tup a, .tup b]) ∧ Q (zipD a b)
theorem rp_pair {K : PySem.W.Frag} {c : CEnv} {S : Option Addr} {H : Hp} {T : Addr} {x y : V} {d e : Da} {O : List Addr} (hT : H T = none) (oc : Occ H O) (h1 : Rp K c S (hid H O) x d) (h2 : Rp K c S (hid H O) y e) : Rp K c S (hid (upd H T (.tup [x, y])) O) (.ref T) (.tup [d, e]) :=
  .tup (SqT.of (hid_lk (oc.no hT) upd_same)) (.cons (rpS (hid_new hT) h1) (.cons (rpS (hid_new hT) h2) .nil))
theorem sim_iZip {t : TA} {p : PAr} (h : SimA N t p) : SimI N (RZ.iZipA N.K t) (piZip p) := by
  intro w H0 B aw ow H σ ρ R Q' r q k
  refine h w H0 B aw ow H σ ρ _ _ r q fun vs ds H1 r1 x1 h1 ⟨a, b, e, q1⟩ => ?_
  rcases e with rfl | rfl
  · obtain ⟨v, u, rfl, ha, hb⟩ := rps2 h1
    obtain ⟨pa, xs, rfl, ea, ra⟩ := rpL ha
    obtain ⟨pb, ys, rfl, eb, rb⟩ := rpL hb
    have la := rpsLen ra
    have lb := rpsLen rb
    refine ⟨pa, pb, xs, ys, rfl, .inl ⟨SqL.of (hid_le _ _ ea), SqL.of (hid_le _ _ eb), k _ _ H1 r1 x1 ⟨fun i H h s => ⟨xs, ys, SqL.of (s _ _ ea), SqL.of (s _ _ eb), by rw [zipD_len] at h; omega⟩, fun i H h s => ?_, fun i H x H' d hd s y => ?_⟩ q1⟩⟩
    · rw [zipD_len] at h
      have h1 : i < xs.length := by omega
      have h2 : i < ys.length := by omega
      exact ⟨xs, ys, xs[i], ys[i], SqL.of (s _ _ ea), SqL.of (s _ _ eb), by simp [h1], by simp [h2]⟩
    · obtain ⟨T, x1, y1, rfl, hT, rfl, f1, f2⟩ := y
      obtain ⟨d1, d2, e1, e2, rfl⟩ := zipD_get hd
      obtain ⟨v, hv, rv⟩ := rpsGet ra e1
      obtain ⟨u, hu, ru⟩ := rpsGet rb e2
      have z1 := f1 xs (SqL.of (s _ _ ea))
      have z2 := f2 ys (SqL.of (s _ _ eb))
      rw [hv] at z1; rw [hu] at z2
      cases z1; cases z2
      exact ⟨Same.new hT (Same.refl _), fun O oc t => rp_pair hT oc (rpS t rv) (rpS t ru)⟩
  · obtain ⟨v, u, rfl, ha, hb⟩ := rps2 h1
    obtain ⟨pa, xs, rfl, ea, ra⟩ := rpT ha
    obtain ⟨pb, ys, rfl, eb, rb⟩ := rpT hb
    have la := rpsLen ra
    have lb := rpsLen rb
    refine ⟨pa, pb, xs, ys, rfl, .inr ⟨Same.sqT hid_le ea, Same.sqT hid_le eb, k _ _ H1 r1 x1 ⟨fun i H h s => ⟨xs, ys, Same.sqT s ea, Same.sqT s eb, by rw [zipD_len] at h; omega⟩, fun i H h s => ?_, fun i H x H' d hd s y => ?_⟩ q1⟩⟩
    · rw [zipD_len] at h
      have h1 : i < xs.length := by omega
      have h2 : i < ys.length := by omega
      exact ⟨xs, ys, xs[i], ys[i], Same.sqT s ea, Same.sqT s eb, by simp [h1], by simp [h2]⟩
    · obtain ⟨T, x1, y1, rfl, hT, rfl, f1, f2⟩ := y
      obtain ⟨d1, d2, e1, e2, rfl⟩ := zipD_get hd
      obtain ⟨v, hv, rv⟩ := rpsGet ra e1
      obtain ⟨u, hu, ru⟩ := rpsGet rb e2
      have z1 := f1 xs (Same.sqT s ea)
      have z2 := f2 ys (Same.sqT s eb)
      rw [hv] at z1; rw [hu] at z2
      cases z1; cases z2
      exact ⟨Same.new hT (Same.refl _), fun O oc t => rp_pair hT oc (rpS t rv) (rpS t ru)⟩
def enumD (l : List Da) : List Da := l.mapIdx fun i x => .tup [.int (i : Nat), x]
theorem enumD_get {l : List Da} {i : Nat} {d : Da} (h : (enumD l)[i]? = some d) : ∃ x, l[i]? = some x ∧ d = .tup [.int (i : Nat), x] := by
  unfold enumD at h
  rw [List.getElem?_mapIdx] at h
  cases e : l[i]? with
  | none => rw [e] at h; cases h
  | some x => rw [e] at h; exact ⟨x, rfl, (Option.some.inj h).symm⟩
theorem enumD_len {l : List Da} : (enumD l).length = l.length := by unfold enumD; rw [List.length_mapIdx]
def piEnum (p : PAr) : PIt := fun ρ Q => p ρ fun ds => ∃ l, (ds = [.lst l] ∨ ds = [.tup l]) ∧ Q (enumD l)
theorem sim_iEnum {t : TA} {p : PAr} (h : SimA N t p) : SimI N (iEnumA N.K t) (piEnum p) := by
  intro w H0 B aw ow H σ ρ R Q' r q k
  refine h w H0 B aw ow H σ ρ _ _ r q fun vs ds H1 r1 x1 h1 ⟨a, e, q1⟩ => ?_
  rcases e with rfl | rfl
  · obtain ⟨v, rfl, ha⟩ := rps1 h1
    obtain ⟨pa, xs, rfl, ea, ra⟩ := rpL ha
    have la := rpsLen ra
    refine ⟨pa, xs, rfl, .inl ⟨SqL.of (hid_le _ _ ea), k _ _ H1 r1 x1 ⟨fun i H h s => ⟨xs, SqL.of (s _ _ ea), by rw [enumD_len] at h; omega⟩, fun i H h s => ?_, fun i H x H' d hd s y => ?_⟩ q1⟩⟩
    · rw [enumD_len] at h
      have h1 : i < xs.length := by omega
      exact ⟨xs, xs[i], SqL.of (s _ _ ea), by simp [h1]⟩
    · obtain ⟨T, x1, rfl, hT, rfl, f1⟩ := y
      obtain ⟨d1, e1, rfl⟩ := enumD_get hd
      obtain ⟨v, hv, rv⟩ := rpsGet ra e1
      have z1 := f1 xs (SqL.of (s _ _ ea))
      rw [hv] at z1
      cases z1
      exact ⟨Same.new hT (Same.refl _), fun O oc t => rp_pair hT oc (.int _) (rpS t rv)⟩
  · obtain ⟨v, rfl, ha⟩ := rps1 h1
    obtain ⟨pa, xs, rfl, ea, ra⟩ := rpT ha
    have la := rpsLen ra
    refine ⟨pa, xs, rfl, .inr ⟨Same.sqT hid_le ea, k _ _ H1 r1 x1 ⟨fun i H h s => ⟨xs, Same.sqT s ea, by rw [enumD_len] at h; omega⟩, fun i H h s => ?_, fun i H x H' d hd s y => ?_⟩ q1⟩⟩
    · rw [enumD_len] at h
      have h1 : i < xs.length := by omega
      exact ⟨xs, xs[i], Same.sqT s ea, by simp [h1]⟩
    · obtain ⟨T, x1, rfl, hT, rfl, f1⟩ := y
      obtain ⟨d1, e1, rfl⟩ := enumD_get hd
      obtain ⟨v, hv, rv⟩ := rpsGet ra e1
      have z1 := f1 xs (Same.sqT s ea)
      rw [hv] at z1
      cases z1
      exact ⟨Same.new hT (Same.refl _), fun O oc t => rp_pair hT oc (.int _) (rpS t rv)⟩
def strD (x : Str) : List Da := x.cps.toList.map fun ch => .str ⟨#[ch]⟩
def piStr (p : PEx) : PIt := fun ρ Q => p ρ fun d => ∃ x, d = .str x ∧ Q (strD x)
theorem sim_iStr {t : TE} {p : PEx} (h : SimE N t p) : SimI N (iStr t) (piStr p) := by
  intro w H0 B aw ow H σ ρ R Q' r q k
  refine h w H0 B aw ow H σ ρ _ _ r q fun v d H1 r1 x1 h1 ⟨x, e, q1⟩ => ?_
  subst e; cases h1
  have hl : (strD x).length = x.cps.size := by unfold strD; rw [List.length_map, Array.length_toList]
  refine ⟨x, rfl, k _ _ H1 r1 x1 ⟨fun i H h s => by rw [hl] at h; exact Nat.le_of_eq h, fun i H h s => by rw [hl] at h; exact h, fun i H v H' d hd s y => ?_⟩ q1⟩
  obtain ⟨rfl, ch, e, rfl⟩ := y
  unfold strD at hd
  rw [List.getElem?_map, Array.getElem?_toList, e] at hd
  cases hd
  exact ⟨Same.refl _, fun O _ t => .str _⟩
/-! ### statements -/
def pNext : PSt := fun D ρ => D.nx ρ
def pSeq (p q : PSt) : PSt := fun D ρ => p { D with nx := q D } ρ
def pCut (p q : PSt) : PSt := fun D ρ => ∃ M : PEnv → Prop, p { D with nx := M } ρ ∧ ∀ ρ', M ρ' → q D ρ'
def pAsg (e : PEx) (g : PTg) : PSt := fun D ρ => e ρ fun d => g d ρ D.nx
def pDrop (e : PEx) : PSt := fun D ρ => e ρ fun _ => D.nx ρ
def pRet (e : PEx) : PSt := fun D ρ => e ρ D.rt
def pRetN : PSt := fun D _ => D.rt .non
def pIfS (t : PTe) (p q : PSt) : PSt := fun D ρ => t ρ fun b => if b = true then p D ρ else q D ρ
def pBreak : PSt := fun D ρ => D.bk ρ
def pCont : PSt := fun D ρ => D.ct ρ
def pRaise (Wp : WP) (x : Str) : PSt := fun _ ρ => Wp x ρ
def pRaiseA (Wp : WP) (x : Str) (e : PEx) : PSt := fun _ ρ => e ρ fun _ => Wp x ρ
def pLoop (l : List Da) (g : PTg) (b : PSt) : PSt := fun D ρ => ∃ I : Nat → PEnv → Prop, I 0 ρ ∧ (∀ i x ρ', l[i]? = some x → I i ρ' → g x ρ' fun ρ2 => b { D with nx := I (i + 1), ct := I (i + 1), bk := D.nx } ρ2) ∧ ∀ ρ', I l.length ρ' → D.nx ρ'
def pFor (pi : PIt) (g : PTg) (b : PSt) : PSt := fun D ρ => pi ρ fun l => pLoop l g b D ρ
def pWhile (t : PTe) (b : PSt) : PSt := fun D ρ => ∃ I : Nat → PEnv → Prop, (∃ m, I m ρ) ∧ ∀ m ρ, I m ρ → t ρ fun k => if k = true then b { D with nx := fun ρ' => ∃ m', m' < m ∧ I m' ρ', ct := fun ρ' => ∃ m', m' < m ∧ I m' ρ', bk := D.nx } ρ else D.nx ρ
theorem AdD.withNx {D : Ends} {D' : PD} {nx : L2.St → Hp → Prop} {nx' : PEnv → Prop} (a : AdD N w H0 B D D') (h : ∀ ow H σ ρ, Rel N.K N.c w H0 B ow H σ ρ → nx' ρ → nx σ H) : AdD N w H0 B { D with nx := nx } { D' with nx := nx' } := ⟨h, a.bk, a.ct, a.rt⟩
theorem AdD.re {B' : Hp} {D : Ends} {D' : PD} (a : AdD N w H0 B D D') (s : Same B B') : AdD N w H0 B' D D' := ⟨fun ow H σ ρ r q => a.nx _ _ _ _ (r.re s) q, fun ow H σ ρ r q => a.bk _ _ _ _ (r.re s) q, fun ow H σ ρ r q => a.ct _ _ _ _ (r.re s) q, fun ow H σ ρ v d r h q => a.rt _ _ _ _ _ _ (r.re s) h q⟩
theorem sim_next : SimS N tNext pNext := fun w H0 B aw ow H σ ρ D D' a r q => a.nx _ _ _ _ r q
theorem sim_break : SimS N tBreak pBreak := fun w H0 B aw ow H σ ρ D D' a r q => a.bk _ _ _ _ r q
theorem sim_cont : SimS N tCont pCont := fun w H0 B aw ow H σ ρ D D' a r q => a.ct _ _ _ _ r q
theorem sim_seq {t u : TS} {p q : PSt} (ht : SimS N t p) (hu : SimS N u q) : SimS N (tSeq t u) (pSeq p q) := fun w H0 B aw ow H σ ρ D D' a r z =>
  ht w H0 B aw ow H σ ρ _ _ (a.withNx fun ow' H' σ' ρ' r' q' => hu w H0 B aw ow' H' σ' ρ' D D' a r' q') r z
theorem sim_cut {t u : TS} {p q : PSt} (ht : SimS N t p) (hu : SimS N u q) : SimS N (tCut t u) (pCut p q) := fun w H0 B aw ow H σ ρ D D' a r ⟨M, z, h⟩ =>
  ⟨fun σ' H' => ∃ ow' ρ', Rel N.K N.c w H0 B ow' H' σ' ρ' ∧ M ρ', ht w H0 B aw ow H σ ρ _ _ (a.withNx fun ow' H' σ' ρ' r' q' => ⟨ow', ρ', r', q'⟩) r z, fun σ' H' ⟨ow', ρ', r', m⟩ => hu w H0 B aw ow' H' σ' ρ' D D' a r' (h ρ' m)⟩
theorem sim_asg {t : TE} {g : TG} {p : PEx} {sl : List Nat} {pg : PTg} (ht : SimE N t p) (hg : SimG N g sl pg) : SimS N (tAsg t g) (pAsg p pg) := fun w H0 B aw ow H σ ρ D D' a r z =>
  ht w H0 B aw ow H σ ρ _ _ r z fun v d H1 r1 x1 h1 q1 => hg w H0 B ow H1 σ ρ v d _ _ r1 h1 q1 fun σ' ρ' r' _ q' => a.nx _ _ _ _ r' q'
theorem sim_drop {t : TE} {p : PEx} (ht : SimE N t p) : SimS N (tDrop t) (pDrop p) := fun w H0 B aw ow H σ ρ D D' a r z =>
  ht w H0 B aw ow H σ ρ _ _ r z fun v d H1 r1 x1 h1 q1 => a.nx _ _ _ _ r1 q1
theorem sim_ret {t : TE} {p : PEx} (ht : SimE N t p) : SimS N (tRet t) (pRet p) := fun w H0 B aw ow H σ ρ D D' a r z =>
  ht w H0 B aw ow H σ ρ _ _ r z fun v d H1 r1 x1 h1 q1 => a.rt _ _ _ _ _ _ r1 h1 q1
theorem sim_retN : SimS N tRetN pRetN := fun w H0 B aw ow H σ ρ D D' a r z => a.rt _ _ _ _ _ _ r .non z
theorem sim_ifS {t : TT} {a b : TS} {p : PTe} {pa pb : PSt} (h : SimT N t p) (ha : SimS N a pa) (hb : SimS N b pb) : SimS N (tIfS t a b) (pIfS p pa pb) := by
  intro w H0 B aw ow H σ ρ D D' a r z
  refine h w H0 B aw ow H σ ρ _ _ r z fun b H1 r1 s1 q1 => ?_
  cases b with
  | true => exact z_iteT (ha w H0 B aw ow H1 σ ρ _ _ a r1 (by simpa using q1))
  | false => exact z_iteF (hb w H0 B aw ow H1 σ ρ _ _ a r1 (by simpa using q1))
theorem sim_raise {x : Str} : SimS N (sRaise N.c x N.W) (pRaise N.Wp x) := fun w H0 B aw ow H σ ρ D D' a r z => aw x ow H σ ρ r z
theorem sim_raiseA {x : Str} {t : TE} {p : PEx} (h : SimE N t p) : SimS N (sRaiseA N.c x t N.W) (pRaiseA N.Wp x p) := fun w H0 B aw ow H σ ρ D D' a r z =>
  h w H0 B aw ow H σ ρ _ _ r z fun v d H1 r1 s1 h1 q1 => aw x ow H1 σ ρ r1 q1
theorem sim_for {wi : TI} {pi : PIt} {g : TG} {sl : List Nat} {pg : PTg} {tb : TS} {pb : PSt} (hi : SimI N wi pi) (hg : SimG N g sl pg) (hb : SimS N tb pb) : SimS N (tFor wi g tb) (pFor pi pg pb) := by
  intro w H0 B aw ow H σ ρ D D' a r z
  refine hi w H0 B aw ow H σ ρ _ _ r z fun J items H1 r1 x1 j ⟨I, i0, st, fin⟩ => ?_
  have base : Same B (dh w ow H1) := r1.bs
  refine ⟨fun i m σ' H' => m = items.length - i ∧ i ≤ items.length ∧ ∃ ow' ρ', Rel N.K N.c w H0 (dh w ow H1) ow' H' σ' ρ' ∧ I i ρ', ⟨_, rfl, Nat.zero_le _, ow, ρ, ⟨r1.occ, r1.dr, r1.nd, r1.inj, r1.fr, r1.fr2, r1.len, r1.sl, Same.refl _⟩, i0⟩, ?_⟩
  rintro i m σ' H' ⟨rfl, hi, ow', ρ', r', ii⟩
  by_cases hlt : i < items.length
  · refine .inr ⟨j.go i H' hlt (Same.trans r'.bs hid_le), fun σ2 H2 => ∃ ow2 ρ2, Rel N.K N.c w H0 (dh w ow H1) ow2 H2 σ2 ρ2 ∧ I (i + 1) ρ2, fun σ2 H2 q => ⟨_, by omega, rfl, by omega, q⟩, fun x H2 y => ?_⟩
    have ed : items[i]? = some items[i] := by simp [hlt]
    obtain ⟨s2, rp⟩ := j.yld i H' x H2 _ ed (Same.trans r'.bs hid_le) y
    have r2 := r'.same s2
    refine hg w H0 _ ow' H2 σ' ρ' x _ _ _ r2 (rp _ r'.occ r'.bs) (st i _ ρ' ed ii) fun σ3 ρ3 r3 _ q3 => ?_
    exact hb w H0 _ (aw.re base) ow' H2 σ3 ρ3 _ { D' with nx := I (i + 1), ct := I (i + 1), bk := D'.nx } ⟨fun ow4 H4 σ4 ρ4 r4 q4 => ⟨ow4, ρ4, r4, q4⟩, fun ow4 H4 σ4 ρ4 r4 q4 => a.nx _ _ _ _ (r4.re base) q4, fun ow4 H4 σ4 ρ4 r4 q4 => ⟨ow4, ρ4, r4, q4⟩, fun ow4 H4 σ4 ρ4 v d r4 h4 q4 => a.rt _ _ _ _ _ _ (r4.re base) h4 q4⟩ r3 q3
  · have e : i = items.length := by omega
    subst e
    exact .inl ⟨j.stop _ H' rfl (Same.trans r'.bs hid_le), a.nx _ _ _ _ (r'.re base) (fin ρ' ii)⟩
theorem sim_while {t : TT} {p : PTe} {tb : TS} {pb : PSt} (ht : SimT N t p) (hb : SimS N tb pb) : SimS N (tWhile t tb) (pWhile p pb) := by
  intro w H0 B aw ow H σ ρ D D' a r ⟨I, ⟨m0, i0⟩, st⟩
  refine ⟨fun m σ' H' => ∃ ow' ρ', Rel N.K N.c w H0 B ow' H' σ' ρ' ∧ I m ρ', ⟨m0, ow, ρ, r, i0⟩, ?_⟩
  rintro m σ' H' ⟨ow', ρ', r', ii⟩
  refine ht w H0 B aw ow' H' σ' ρ' _ _ r' (st m ρ' ii) fun b H2 r2 x2 q2 => ?_
  cases b with
  | true =>
    refine z_iteT ⟨fun σ3 H3 => ∃ m', m' < m ∧ ∃ ow3 ρ3, Rel N.K N.c w H0 B ow3 H3 σ3 ρ3 ∧ I m' ρ3, fun σ3 H3 h => h, ?_⟩
    refine hb w H0 B aw ow' H2 σ' ρ' _ { D' with nx := fun ρ' => ∃ m', m' < m ∧ I m' ρ', ct := fun ρ' => ∃ m', m' < m ∧ I m' ρ', bk := D'.nx } ⟨fun ow4 H4 σ4 ρ4 r4 ⟨m', l, q4⟩ => ⟨m', l, ow4, ρ4, r4, q4⟩, fun ow4 H4 σ4 ρ4 r4 q4 => a.nx _ _ _ _ r4 q4, fun ow4 H4 σ4 ρ4 r4 ⟨m', l, q4⟩ => ⟨m', l, ow4, ρ4, r4, q4⟩, fun ow4 H4 σ4 ρ4 v d r4 h4 q4 => a.rt _ _ _ _ _ _ r4 h4 q4⟩ r2 (by simpa using q2)
  | false => exact z_iteF (a.nx _ _ _ _ r2 (by simpa using q2))
end

/-! ### fresh lists -/
def SimF (N : Cn) (t : TE) (p : PAr) : Prop := ∀ w H0 B, AdW N w H0 B → ∀ ow H σ ρ Q (Q' : List Da → Prop), Rel N.K N.c w H0 B ow H σ ρ → p ρ Q' → (∀ a vs l H', Rel N.K N.c w H0 B ((ρ.length, a) :: ow) H' σ ρ → Ex w.S H H' → H a = none → H' a = some (.lst vs) → RpA N.K N.c w.st (dh w ((ρ.length, a) :: ow) H') vs l → Q' l → Q (.ref a) H') → t σ H Q
section
variable {N : Cn} {w : Pw} {H0 B H H' : Hp} {ow : Ow} {σ : L2.St} {ρ : PEnv}
theorem Rel.sub {ow' : Ow} (r : Rel N.K N.c w H0 B ow H σ ρ) (h1 : ∀ p ∈ ow', p ∈ ow) (h2 : ∀ i x, ρ[i]? = some (some x) → SlotOk N.K N.c w ow' H σ i x) : Rel N.K N.c w H0 B ow' H σ ρ := by
  have hsub : ∀ a, a ∈ hl w ow' → a ∈ hl w ow := fun a ha => by
    rcases List.mem_append.mp ha with ha | ha
    · obtain ⟨p, hp, rfl⟩ := List.mem_map.mp ha
      exact List.mem_append_left _ (List.mem_map_of_mem (h1 p hp))
    · exact List.mem_append_right _ ha
  exact ⟨fun a ha => r.occ a (hsub a ha), r.dr, fun p hp => r.nd p (h1 p hp), fun p hp q hq => r.inj p (h1 p hp) q (h1 q hq), r.fr, fun p hp => r.fr2 p (h1 p hp), r.len, h2, Same.trans r.bs (hid_sub hsub)⟩
theorem dh_sub {ow' : Ow} (h1 : ∀ p ∈ ow', p ∈ ow) : Same (dh w ow H) (dh w ow' H) := hid_sub fun a ha => by
  rcases List.mem_append.mp ha with ha | ha
  · obtain ⟨p, hp, rfl⟩ := List.mem_map.mp ha
    exact List.mem_append_left _ (List.mem_map_of_mem (h1 p hp))
  · exact List.mem_append_right _ ha
theorem get_lt {i : Nat} {x : Pv} (h : ρ[i]? = some (some x)) : i < ρ.length := (List.getElem?_eq_some_iff.mp h).1
/-- what was hidden comes out -/
theorem Rel.unhide {a : Addr} (r : Rel N.K N.c w H0 B ((ρ.length, a) :: ow) H σ ρ) : Rel N.K N.c w H0 B ow H σ ρ := by
  refine r.sub (fun p hp => List.mem_cons_of_mem _ hp) fun i x e => ?_
  have lt := get_lt e
  have k := r.sl i x e
  have s : Same (dh w ((ρ.length, a) :: ow) H) (dh w ow H) := dh_sub fun p hp => List.mem_cons_of_mem _ hp
  have mem : ∀ {b : Addr}, (i, b) ∈ (ρ.length, a) :: ow → (i, b) ∈ ow := fun {b} hb => by
    rcases List.mem_cons.mp hb with z | z
    · injection z with z1 z2; omega
    · exact z
  cases x with
  | d x => obtain ⟨v, e, rr⟩ := k; exact ⟨v, e, rpS s rr⟩
  | own l => obtain ⟨b, vs, m, e, eh, rr⟩ := k; exact ⟨b, vs, mem m, e, eh, rpsS s rr⟩
  | obj x gs ks l => obtain ⟨b, dx, vs, m, e, ok, eh, hl, rr⟩ := k; exact ⟨b, dx, vs, mem m, e, ok, eh, hl, rpsS s rr⟩
theorem Rel.notIn {a : Addr} {j : Nat} (r : Rel N.K N.c w H0 B ((j, a) :: ow) H σ ρ) (h : ∀ p ∈ ow, p.2 ≠ a) : a ∉ hl w ow := fun m => by
  rcases List.mem_append.mp m with m | m
  · obtain ⟨p, hp, e⟩ := List.mem_map.mp m; exact h p hp e
  · exact (r.nd _ (List.mem_cons_self ..)).2 m
/-- a fresh list as data -/
theorem sim_ofF {t : TE} {p : PAr} (h : SimF N t p) : SimE N t (fun ρ Q => p ρ fun l => Q (.lst l)) := by
  intro w H0 B aw ow H σ ρ Q Q' r z k
  refine h w H0 B aw ow H σ ρ _ _ r z fun a vs l H1 r1 x1 ha e1 h1 q1 => ?_
  have nin : a ∉ hl w ow := r.occ.no ha
  exact k _ _ H1 r1.unhide x1 (.lst (hid_lk nin e1) (rpsS (dh_sub fun p hp => List.mem_cons_of_mem _ hp) h1)) q1
theorem simF_lst {t : TA} {p : PAr} (ht : SimA N t p) : SimF N (tLst t) (fun ρ Q => p ρ fun ds => ds.length ≤ 100000 ∧ Q ds) := by
  intro w H0 B aw ow H σ ρ Q Q' r h k
  refine ht w H0 B aw ow H σ ρ _ _ r h fun vs ds H1 r1 s1 h1 ⟨l, q1⟩ => ⟨Nat.le_trans (by rw [rpsLen h1]; exact l) (by decide), fun a ha => ?_⟩
  have h0 : H a = none := by
    cases e : H a with
    | none => rfl
    | some o =>
      by_cases q : ∃ st L, w.S = some (st, L) ∧ a = st
      · obtain ⟨st, L, e, rfl⟩ := q
        obtain ⟨o', e'⟩ := (s1.2 _ _ e).occ; rw [ha] at e'; cases e'
      · have := s1.1 a o (fun st L z1 z2 => q ⟨st, L, z1, z2⟩) e; rw [ha] at this; cases this
  exact k a vs ds _ (r1.hide ha) (Ex.trans s1 (r1.exOf (Same.new ha (Same.refl _)))) h0 upd_same (RpA.hide ha h1 (Same.new ha (Same.refl _))) q1
theorem Ex.none {S : Option (Addr × Addr)} {a : Addr} (x : Ex S H H') (h : H' a = none) : H a = none := by
  cases e : H a with
  | none => rfl
  | some o =>
    by_cases q : ∃ st L, S = some (st, L) ∧ a = st
    · obtain ⟨st, L, e, rfl⟩ := q
      obtain ⟨o', e'⟩ := (x.2 _ _ e).occ; rw [h] at e'; cases e'
    · have := x.1 a o (fun st L z1 z2 => q ⟨st, L, z1, z2⟩) e; rw [h] at this; cases this
/-! ### comprehensions -/
def wipeP (ρ : PEnv) : List Nat → PEnv
  | [] => ρ
  | v :: vs => (wipeP ρ vs).set v none
theorem wipeP_len {us : List Nat} : (wipeP ρ us).length = ρ.length := by
  induction us with
  | nil => rfl
  | cons u us ih => unfold wipeP; rw [List.length_set, ih]
theorem Rel.wipe (r : Rel N.K N.c w H0 B ow H σ ρ) : ∀ us : List Nat, Rel N.K N.c w H0 B ow H (L2.wipe σ us) (wipeP ρ us)
  | [] => r
  | u :: us => (r.wipe us).drop u none
def pComp (l : List Da) (g : PTg) (t : PTe) (e : PEx) (us : List Nat) : PAr := fun ρ Q => l.length ≤ 90000 ∧ ∃ R : Nat → List Da → Prop, R 0 [] ∧ (∀ i x acc, l[i]? = some x → R i acc → g x (wipeP ρ us) fun ρ2 => t ρ2 fun b => if b = true then e ρ2 fun y => R (i + 1) (acc ++ [y]) else R (i + 1) acc) ∧ ∀ acc, R l.length acc → Q acc
def pLcF (pi : PIt) (g : PTg) (t : PTe) (e : PEx) (us : List Nat) : PAr := fun ρ Q => pi ρ fun l => pComp l g t e us ρ Q
def pLc (pi : PIt) (g : PTg) (t : PTe) (e : PEx) (us : List Nat) : PEx := fun ρ Q => pLcF pi g t e us ρ fun l => Q (.lst l)
def pYes : PTe := fun _ Q => Q true
theorem sim_yes : SimT N tYes pYes := fun w H0 B aw ow H σ ρ Q Q' r h k => k true H r r.x0 h
theorem simF_lc {wi : TI} {pi : PIt} {g : TG} {sl : List Nat} {pg : PTg} {tt : TT} {pt : PTe} {te : TE} {pe : PEx} {us : List Nat} (hi : SimI N wi pi) (hg : SimG N g sl pg) (hs : ∀ i ∈ sl, i ∈ us) (ht : SimT N tt pt) (he : SimE N te pe) : SimF N (tLc wi g tt te us) (pLcF pi pg pt pe us) := by
  intro w H0 B aw ow H σ ρ Q Q' r z k
  refine hi w H0 B aw ow H σ ρ _ _ r z fun J items H1 r1 x1 j ⟨hn, R, i0, st, fin⟩ D hD => ?_
  refine ⟨fun i m H' => m = items.length - i ∧ i ≤ items.length ∧ Rel N.K N.c w H0 B ((ρ.length, D) :: ow) H' σ ρ ∧ Ex w.S H1 H' ∧ ∃ acc ds, H' D = some (.lst acc) ∧ RpA N.K N.c w.st (dh w ((ρ.length, D) :: ow) H') acc ds ∧ acc.length ≤ i ∧ R i ds, ⟨_, rfl, Nat.zero_le _, r1.hide hD, r1.exOf (Same.new hD (Same.refl _)), [], [], upd_same, .nil, Nat.le_refl _, i0⟩, ?_⟩
  have hG : ∀ H', Rel N.K N.c w H0 B ((ρ.length, D) :: ow) H' σ ρ → Ex w.S H1 H' → Same (dh w ow H1) (dh w ((ρ.length, D) :: ow) H') := fun H' r' x' => hid_of hD (x'.dh r1)
  rintro i m H' ⟨rfl, hi, r', x', acc, ds, eD, ra, la, ii⟩
  have s' := hG H' r' x'
  by_cases hlt : i < items.length
  · refine .inr ⟨j.go i H' hlt (Same.trans s' hid_le), fun H2 => Rel N.K N.c w H0 B ((ρ.length, D) :: ow) H2 σ ρ ∧ Ex w.S H1 H2 ∧ ∃ acc ds, H2 D = some (.lst acc) ∧ RpA N.K N.c w.st (dh w ((ρ.length, D) :: ow) H2) acc ds ∧ acc.length ≤ i + 1 ∧ R (i + 1) ds, fun H2 q => ⟨_, by omega, rfl, by omega, q⟩, fun x H2 y => ?_⟩
    have ed : items[i]? = some items[i] := by simp [hlt]
    obtain ⟨s2, rp⟩ := j.yld i H' x H2 _ ed (Same.trans s' hid_le) y
    have r2 := r'.same s2
    have x2 : Ex w.S H' H2 := r'.exOf s2
    refine hg w H0 B _ H2 _ _ x _ _ _ (r2.wipe us) (rp _ r'.occ s') (st i _ ds ed ii) fun σ3 ρ3 r3 w3 q3 => ⟨(w3 us hs).trans wipe_wipe, ?_⟩
    have notD : ∀ st L, w.S = some (st, L) → D ≠ st := r'.notSt (p := (ρ.length, D)) (List.mem_cons_self ..)
    refine ht w H0 B aw _ H2 σ3 ρ3 _ _ r3 q3 fun b H3 r4 x4 q4 => ?_
    cases b with
    | true =>
      refine z_iteT (he w H0 B aw _ H3 σ3 ρ3 _ _ r4 (by simpa using q4) fun v d H4 r5 x5 h5 q5 => ?_)
      have x04 : Ex w.S H' H4 := Ex.trans x2 (Ex.trans x4 x5)
      have e4 := x04.1 D _ notD eD
      have rr := r'.ex x04
      refine ⟨acc, e4, Nat.lt_of_lt_of_le (show acc.length < 100000 by omega) (by decide), ?_⟩
      have rw' := rr.write (o := .lst (acc ++ [v])) (List.mem_cons_self ..) (fun k' x e m => by
        have lt := get_lt e
        rcases List.mem_cons.mp m with z | z
        · injection z with z1 z2; omega
        · exact absurd (r'.inj _ (List.mem_cons_of_mem _ z) _ (List.mem_cons_self ..) rfl) (fun z' => by injection z' with z1 z2; omega))
      have ed : dh w ((ρ.length, D) :: ow) (upd H4 D (.lst (acc ++ [v]))) = dh w ((ρ.length, D) :: ow) H4 := hid_put (List.mem_cons_self ..)
      refine ⟨rw', ⟨fun a o n ea => ?_, fun st L e => ((rw'.dr st L e).1)⟩, _, _, upd_same, by rw [ed]; exact rpsApp (rpsS (x04.dh r') ra) (rpsOne h5), by simp; omega, q5⟩
      refine lk_ne (fun z => ?_) ((Ex.trans x' x04).1 a o n ea)
      subst z; rw [hD] at ea; cases ea
    | false =>
      have x03 : Ex w.S H' H3 := Ex.trans x2 x4
      exact z_iteF ⟨r'.ex x03, Ex.trans x' x03, acc, ds, x03.1 D _ notD eD, rpsS (x03.dh r') ra, by omega, by simpa using q4⟩
  · have e : i = items.length := by omega
    subst e
    exact .inl ⟨j.stop _ H' rfl (Same.trans s' hid_le), k D acc ds H' r' (Ex.trans x1 x') (x1.none hD) eD ra (fin ds ii)⟩
theorem sim_lc {wi : TI} {pi : PIt} {g : TG} {sl : List Nat} {pg : PTg} {tt : TT} {pt : PTe} {te : TE} {pe : PEx} {us : List Nat} (hi : SimI N wi pi) (hg : SimG N g sl pg) (hs : ∀ i ∈ sl, i ∈ us) (ht : SimT N tt pt) (he : SimE N te pe) : SimE N (tLc wi g tt te us) (pLc pi pg pt pe us) := sim_ofF (simF_lc hi hg hs ht he)
/-! ### a list of the def's own -/
theorem Rel.reown {a : Addr} {i : Nat} {vs : List V} {l : List Da} (r : Rel N.K N.c w H0 B ((ρ.length, a) :: ow) H σ ρ) (hn : a ∉ hl w ow) (e : H a = some (.lst vs)) (h : RpA N.K N.c w.st (dh w ((ρ.length, a) :: ow) H) vs l) : Rel N.K N.c w H0 B ((i, a) :: ow) H (σ.set i (some (.ref a))) (ρ.set i (some (.own l))) := by
  have eq : ∀ {H : Hp}, dh w ((i, a) :: ow) H = dh w ((ρ.length, a) :: ow) H := rfl
  have fresh : ∀ q ∈ ow, q.2 ≠ a := fun q hq z => hn (List.mem_append_left _ (z ▸ List.mem_map_of_mem hq))
  refine ⟨r.occ, r.dr, ?_, ?_, r.fr, ?_, by rw [List.length_set, List.length_set]; exact r.len, ?_, r.bs⟩
  · intro q hq
    rcases List.mem_cons.mp hq with rfl | hq
    · exact r.nd (ρ.length, a) (List.mem_cons_self ..)
    · exact r.nd q (List.mem_cons_of_mem _ hq)
  · intro q hq q' hq' z
    rcases List.mem_cons.mp hq with rfl | hq
    · rcases List.mem_cons.mp hq' with rfl | hq'
      · rfl
      · exact absurd z.symm (fresh q' hq')
    · rcases List.mem_cons.mp hq' with rfl | hq'
      · exact absurd z (fresh q hq)
      · exact r.inj q (List.mem_cons_of_mem _ hq) q' (List.mem_cons_of_mem _ hq') z
  · intro q hq
    rcases List.mem_cons.mp hq with rfl | hq
    · exact r.fr2 (ρ.length, a) (List.mem_cons_self ..)
    · exact r.fr2 q (List.mem_cons_of_mem _ hq)
  · intro j x ej
    rw [getElem?_set'] at ej
    by_cases q : i = j
    · subst q
      rw [if_pos rfl] at ej
      by_cases lt : i < ρ.length
      · rw [if_pos lt] at ej
        cases ej
        exact ⟨a, vs, List.mem_cons_self .., by rw [List.getElem?_set_self (by rw [r.len]; exact lt)], e, h⟩
      · rw [if_neg lt] at ej; cases ej
    · rw [if_neg q] at ej
      have lt := get_lt ej
      have k := r.sl j x ej
      have mem : ∀ {b : Addr}, (j, b) ∈ (ρ.length, a) :: ow → (j, b) ∈ (i, a) :: ow := fun {b} hb => by
        rcases List.mem_cons.mp hb with z | z
        · injection z with z1 z2; omega
        · exact List.mem_cons_of_mem _ z
      refine SlotOk.other ?_ q
      cases x with
      | d x => exact k
      | own l => obtain ⟨b, vs, m, e, eh, rr⟩ := k; exact ⟨b, vs, mem m, e, eh, rr⟩
      | obj x gs ks l => obtain ⟨b, dx, vs, m, e, ok, eh, hl, rr⟩ := k; exact ⟨b, dx, vs, mem m, e, ok, eh, hl, rr⟩
def pAsgO (i : Nat) (p : PAr) : PSt := fun D ρ => p ρ fun l => D.nx (ρ.set i (some (.own l)))
theorem sim_asgO {t : TE} {p : PAr} {i : Nat} (h : SimF N t p) : SimS N (tAsg t (gName i)) (pAsgO i p) := fun w H0 B aw ow H σ ρ D D' a r z =>
  h w H0 B aw ow H σ ρ _ _ r z fun b vs l H1 r1 x1 hb e1 h1 q1 => a.nx _ _ _ _ (r1.reown (r.occ.no hb) e1 h1) q1
/-- an own list is written -/
theorem Rel.putO {i : Nat} {a : Addr} {vs' : List V} {l' : List Da} (r : Rel N.K N.c w H0 B ow H σ ρ) (lt : i < ρ.length) (m : (i, a) ∈ ow) (e : σ[i]? = some (some (.ref a))) (h : RpA N.K N.c w.st (dh w ow H) vs' l') : Rel N.K N.c w H0 B ow (upd H a (.lst vs')) σ (ρ.set i (some (.own l'))) := by
  have hin : a ∈ hl w ow := List.mem_append_left _ (List.mem_map_of_mem (f := (·.2)) m)
  have ed : dh w ow (upd H a (.lst vs')) = dh w ow H := hid_put hin
  have r0 : Rel N.K N.c w H0 B ow H σ (ρ.set i none) := ⟨r.occ, r.dr, r.nd, r.inj, r.fr, r.fr2, by rw [List.length_set]; exact r.len, fun j x ej => by
    rw [getElem?_set'] at ej
    by_cases q : i = j
    · rw [if_pos q] at ej; split at ej <;> cases ej
    · rw [if_neg q] at ej; exact r.sl j x ej, r.bs⟩
  have r1 := r0.write (o := .lst vs') m (fun k x ek mk => by
    have := r0.inj _ mk _ m rfl
    injection this with z _
    subst z
    rw [getElem?_set', if_pos rfl] at ek
    split at ek <;> cases ek)
  refine ⟨r1.occ, r1.dr, r1.nd, r1.inj, r1.fr, r1.fr2, by rw [List.length_set]; exact r.len, fun j x ej => ?_, r1.bs⟩
  rw [getElem?_set'] at ej
  by_cases q : i = j
  · subst q
    rw [if_pos rfl, if_pos lt] at ej
    cases ej
    exact ⟨a, vs', m, e, upd_same, by rw [ed]; exact h⟩
  · rw [if_neg q] at ej
    exact r1.sl j x (by rw [getElem?_set', if_neg q]; exact ej)
def pApp (i : Nat) (e : PEx) : PSt := fun D ρ => ∃ l, ρ[i]? = some (some (.own l)) ∧ l.length < 100000 ∧ e ρ fun d => D.nx (ρ.set i (some (.own (l ++ [d]))))
theorem Rel.notSt' (r : Rel N.K N.c w H0 B ow H σ ρ) {i : Nat} {a : Addr} (m : (i, a) ∈ ow) : ∀ st L, w.S = some (st, L) → a ≠ st := r.notSt m
theorem sim_app {i : Nat} {t : TE} {p : PEx} (h : SimE N t p) : SimS N (tDrop (tBM N.K "list" rAppend (tVar i) (tCons t tNil))) (pApp i p) := by
  intro w H0 B aw ow H σ ρ D D' a r ⟨l, el, hl, z⟩
  obtain ⟨b, vs, m, es, eb, rl⟩ := r.sl i _ el
  refine ⟨.ref b, es, tyL eb, ?_⟩
  refine h w H0 B aw ow H σ ρ _ _ r z fun v d H1 r1 x1 h1 q1 => ?_
  refine ⟨b, vs, v, rfl, rfl, x1.1 b _ (r.notSt m) eb, Nat.lt_of_lt_of_le (show vs.length < 100000 by rw [rpsLen rl]; exact hl) (by decide), ?_⟩
  exact a.nx _ _ _ _ (r1.putO (get_lt el) m es (rpsApp (rpsS (x1.dh r) rl) (rpsOne h1))) q1
def pSetI (i : Nat) (pk pv : PEx) : PSt := fun D ρ => ∃ l, ρ[i]? = some (some (.own l)) ∧ pv ρ fun d => pk ρ fun e => ∃ k j, e = .int k ∧ ixN l.length k = some j ∧ D.nx (ρ.set i (some (.own (l.set j d))))
theorem sim_setI {i : Nat} {tk tv : TE} {pk pv : PEx} (hk : SimE N tk pk) (hv : SimE N tv pv) : SimS N (tAsg tv (gSub (tVar i) tk rSetL)) (pSetI i pk pv) := by
  intro w H0 B aw ow H σ ρ D D' a r ⟨l, el, z⟩
  obtain ⟨b, vs, m, es, eb, rl⟩ := r.sl i _ el
  refine hv w H0 B aw ow H σ ρ _ _ r z fun v d H1 r1 x1 h1 q1 => ?_
  refine ⟨.ref b, es, ?_⟩
  refine hk w H0 B aw ow H1 σ ρ _ _ r1 q1 fun u e H2 r2 x2 h2 ⟨k, j, ee, ej, q2⟩ => ?_
  subst ee; cases h2
  have x12 := Ex.trans x1 x2
  refine ⟨b, vs, k, j, rfl, rfl, x12.1 b _ (r.notSt m) eb, by rw [rpsLen rl]; exact ej, ?_⟩
  exact a.nx _ _ _ _ (r2.putO (get_lt el) m es (rpsSet j (rpsS (x12.dh r) rl) (rpS (x2.dh r1) h1))) q2
/-! ### from own to data, for good or for a moment -/
theorem Rel.frz {i : Nat} {l : List Da} (r : Rel N.K N.c w H0 B ow H σ ρ) (e : ρ[i]? = some (some (.own l))) : ∃ ow2, (∀ p ∈ ow2, p ∈ ow) ∧ Rel N.K N.c w H0 B ow2 H σ (ρ.set i (some (.d (.lst l)))) := by
  obtain ⟨a, vs, m, es, ea, rl⟩ := r.sl i _ e
  have sub : ∀ p ∈ ow.filter (fun p => p.2 != a), p ∈ ow := fun p hp => (List.mem_filter.mp hp).1
  have r0 : Rel N.K N.c w H0 B ow H σ (ρ.set i none) := ⟨r.occ, r.dr, r.nd, r.inj, r.fr, r.fr2, by rw [List.length_set]; exact r.len, fun j x ej => by
    rw [getElem?_set'] at ej
    by_cases q : i = j
    · rw [if_pos q] at ej; split at ej <;> cases ej
    · rw [if_neg q] at ej; exact r.sl j x ej, r.bs⟩
  have s : Same (dh w ow H) (dh w (ow.filter (fun p => p.2 != a)) H) := dh_sub sub
  have r1 : Rel N.K N.c w H0 B (ow.filter (fun p => p.2 != a)) H σ (ρ.set i none) := r0.sub sub fun j x ej => by
    have k := r0.sl j x ej
    have ne : i ≠ j := fun q => by subst q; rw [getElem?_set', if_pos rfl] at ej; split at ej <;> cases ej
    have mem : ∀ {b : Addr}, (j, b) ∈ ow → (j, b) ∈ ow.filter (fun p => p.2 != a) := fun {b} hb => List.mem_filter.mpr ⟨hb, by
      rw [bne_iff_ne]
      intro z
      have := r.inj _ hb _ m z
      injection this with z1 _
      exact ne z1.symm⟩
    cases x with
    | d x => obtain ⟨v, e, rr⟩ := k; exact ⟨v, e, rpS s rr⟩
    | own l => obtain ⟨b, vs, m, e, eh, rr⟩ := k; exact ⟨b, vs, mem m, e, eh, rpsS s rr⟩
    | obj x gs ks l => obtain ⟨b, dx, vs, m, e, ok, eh, hl, rr⟩ := k; exact ⟨b, dx, vs, mem m, e, ok, eh, hl, rpsS s rr⟩
  have nin : a ∉ hl w (ow.filter (fun p => p.2 != a)) := fun h => by
    rcases List.mem_append.mp h with h | h
    · obtain ⟨p, hp, e⟩ := List.mem_map.mp h
      have := (List.mem_filter.mp hp).2
      rw [bne_iff_ne] at this
      exact this e
    · exact (r.nd _ m).2 h
  refine ⟨_, sub, r1.occ, r1.dr, r1.nd, r1.inj, r1.fr, r1.fr2, by rw [List.length_set]; exact r.len, fun j x ej => ?_, r1.bs⟩
  rw [getElem?_set'] at ej
  by_cases q : i = j
  · subst q
    rw [if_pos rfl, if_pos (get_lt e)] at ej
    cases ej
    exact ⟨.ref a, es, .lst (hid_lk nin ea) (rpsS s rl)⟩
  · rw [if_neg q] at ej
    exact r1.sl j x (by rw [getElem?_set', if_neg q]; exact ej)
def pFrz (i : Nat) (p : PSt) : PSt := fun D ρ => ∃ l, ρ[i]? = some (some (.own l)) ∧ p D (ρ.set i (some (.d (.lst l))))
theorem sim_frz {t : TS} {p : PSt} {i : Nat} (h : SimS N t p) : SimS N t (pFrz i p) := fun w H0 B aw ow H σ ρ D D' a r ⟨l, e, z⟩ => by
  obtain ⟨ow2, _, r2⟩ := r.frz e
  exact h w H0 B aw ow2 H σ _ D D' a r2 z
def pBor (i : Nat) (p : PEx) : PEx := fun ρ Q => ∃ l, ρ[i]? = some (some (.own l)) ∧ p (ρ.set i (some (.d (.lst l)))) fun d => flD d = true ∧ Q d
def pBorT (i : Nat) (p : PTe) : PTe := fun ρ Q => ∃ l, ρ[i]? = some (some (.own l)) ∧ p (ρ.set i (some (.d (.lst l)))) Q
theorem flat_rp {K : PySem.W.Frag} {c : CEnv} {S : Option Addr} {G G' : Hp} {v : V} {d : Da} (h : Rp K c S G v d) (f : flD d = true) : Rp K c S G' v d := by
  cases d <;> first | (cases f; done) | (cases h; constructor)
/-- nothing is raised while something is lent -/
theorem sim_bor {t : TE} {p : PEx} {i : Nat} (h : SimE ⟨N.K, N.c, W0, fun _ _ => False⟩ t p) : SimE N t (pBor i p) := by
  intro w H0 B aw ow H σ ρ Q Q' r ⟨l, e, z⟩ k
  obtain ⟨ow2, sub, r2⟩ := Rel.frz (N := N) r e
  refine h w H0 B (fun _ _ _ _ _ _ f => f.elim) ow2 H σ _ _ _ r2 z fun v d H1 r1 x1 h1 ⟨f, q1⟩ => ?_
  exact k v d H1 (r.ex x1) x1 (flat_rp h1 f) q1
theorem sim_borT {t : TT} {p : PTe} {i : Nat} (h : SimT ⟨N.K, N.c, W0, fun _ _ => False⟩ t p) : SimT N t (pBorT i p) := by
  intro w H0 B aw ow H σ ρ Q Q' r ⟨l, e, z⟩ k
  obtain ⟨ow2, sub, r2⟩ := Rel.frz (N := N) r e
  refine h w H0 B (fun _ _ _ _ _ _ f => f.elim) ow2 H σ _ _ _ r2 z fun b H1 r1 x1 q1 => ?_
  exact k b H1 (r.ex x1) x1 q1
/-! ### self while it is made -/
def putK (f : Str) : List Str → List Str
  | [] => [f]
  | k :: ks => if k = f then k :: ks else k :: putK f ks
def putL {α : Type} (f : Str) (d : α) : List Str → List α → List α
  | [], _ => [d]
  | _ :: _, [] => []
  | k :: ks, x :: l => if k = f then d :: l else x :: putL f d ks l
theorem putF_zip {f : Str} {v : V} : ∀ {ks : List Str} {vs : List V}, vs.length = ks.length → putF f v (ks.zip vs) = (putK f ks).zip (putL f v ks vs)
  | [], vs, h => by rw [List.zip_nil_left]; rfl
  | k :: ks, [], h => by simp at h
  | k :: ks, x :: vs, h => by
    rw [List.zip_cons_cons]
    unfold putF putK putL
    by_cases e : k = f
    · rw [if_pos e, if_pos e, if_pos e, List.zip_cons_cons]
    · rw [if_neg e, if_neg e, if_neg e, List.zip_cons_cons, putF_zip (by simpa using h)]
theorem putL_len {α : Type} {f : Str} {d : α} : ∀ {ks : List Str} {l : List α}, l.length = ks.length → (putL f d ks l).length = (putK f ks).length
  | [], l, h => by unfold putL putK; rfl
  | k :: ks, [], h => by simp at h
  | k :: ks, x :: l, h => by
    unfold putL putK
    by_cases e : k = f
    · rw [if_pos e, if_pos e]; simpa using h
    · rw [if_neg e, if_neg e, List.length_cons, List.length_cons, putL_len (by simpa using h)]
theorem putL_rp {K : PySem.W.Frag} {c : CEnv} {S : Option Addr} {G : Hp} {f : Str} {v : V} {d : Da} (h : Rp K c S G v d) : ∀ {ks : List Str} {vs : List V} {l : List Da}, RpA K c S G vs l → RpA K c S G (putL f v ks vs) (putL f d ks l)
  | [], vs, l, r => by unfold putL; exact rpsOne h
  | k :: ks, vs, [], r => by rw [rps0 r]; unfold putL; exact .nil
  | k :: ks, vs, x :: l, r => by
    obtain ⟨u, ws, rfl, a, b⟩ := rpsC r
    unfold putL
    by_cases e : k = f
    · rw [if_pos e, if_pos e]; exact .cons h b
    · rw [if_neg e, if_neg e]; exact .cons a (putL_rp h b)
def pSetF (i : Nat) (f : Str) (e : PEx) : PSt := fun D ρ => ∃ x gs ks l, ρ[i]? = some (some (.obj x gs ks l)) ∧ gs.contains f = true ∧ ks.length < 1000 ∧ e ρ fun d => D.nx (ρ.set i (some (.obj x gs (putK f ks) (putL f d ks l))))
theorem zip_len {α β : Type} {a : List α} {b : List β} (h : b.length = a.length) : (a.zip b).length = a.length := by rw [List.length_zip, h, Nat.min_self]
theorem sim_setF {i : Nat} {f : Str} {t : TE} {p : PEx} (h : SimE N t p) : SimS N (sFld N.K (tVar i) t f) (pSetF i f p) := by
  intro w H0 B aw ow H σ ρ D D' a r ⟨x, gs, ks, l, el, hc, hk, z⟩
  obtain ⟨b, dx, vs, m, es, ok, eb, hl, rl⟩ := r.sl i _ el
  refine h w H0 B aw ow H σ ρ _ _ r z fun v d H1 r1 x1 h1 q1 => ?_
  have lv := rpsLen rl
  refine ⟨.ref b, es, ?_⟩
  refine z_set ok.1 (x1.1 b _ (r.notSt m) eb) hc (by rw [zip_len (by omega)]; exact hk) ?_
  rw [putF_zip (by omega)]
  have rv := putL_rp (f := f) (ks := ks) h1 (rpsS (x1.dh r) rl)
  have hin : b ∈ (ow.map (·.2) ++ w.O) := List.mem_append_left _ (List.mem_map_of_mem (f := (·.2)) m)
  have ed : ∀ o, dh w ow (upd H1 b o) = dh w ow H1 := fun o => hid_put hin
  have lt := get_lt el
  have r0 : Rel N.K N.c w H0 B ow H1 σ (ρ.set i none) := ⟨r1.occ, r1.dr, r1.nd, r1.inj, r1.fr, r1.fr2, by rw [List.length_set]; exact r1.len, fun j x ej => by
    rw [getElem?_set'] at ej
    by_cases q : i = j
    · rw [if_pos q] at ej; split at ej <;> cases ej
    · rw [if_neg q] at ej; exact r1.sl j x ej, r1.bs⟩
  have r2 := r0.write (o := .ins (N.c.cls x) dx ((putK f ks).zip (putL f v ks vs))) m (fun k x ek mk => by
    have := r0.inj _ mk _ m rfl
    injection this with z _
    subst z
    rw [getElem?_set', if_pos rfl] at ek
    split at ek <;> cases ek)
  refine a.nx ow _ _ _ ⟨r2.occ, r2.dr, r2.nd, r2.inj, r2.fr, r2.fr2, by rw [List.length_set]; exact r.len, fun j x ej => ?_, r2.bs⟩ q1
  rw [getElem?_set'] at ej
  by_cases q : i = j
  · subst q
    rw [if_pos rfl, if_pos lt] at ej
    cases ej
    exact ⟨b, dx, _, m, es, ok, upd_same, putL_len hl, by rw [ed]; exact rv⟩
  · rw [if_neg q] at ej
    exact r2.sl j x (by rw [getElem?_set', if_neg q]; exact ej)
def pFldO (i : Nat) (f : Str) : PEx := fun ρ Q => ∃ x gs ks l y, ρ[i]? = some (some (.obj x gs ks l)) ∧ gs.contains f = true ∧ (ks.zip l).lookup f = some y ∧ Q y
theorem sim_fldO {i : Nat} {f : Str} : SimE N (tFld N.K (tVar i) f) (pFldO i f) := by
  intro w H0 B aw ow H σ ρ Q Q' r ⟨x, gs, ks, l, y, el, hc, lk, q⟩ k
  obtain ⟨b, dx, vs, m, es, ok, eb, hl, rl⟩ := r.sl i _ el
  obtain ⟨_, u, lu, ru⟩ := zip_lookup rl lk
  exact ⟨.ref b, es, z_fld ok.1 eb lu hc (k.flat r ru q)⟩
end

/-! list.count of flat values -/
def rCountF (K : PySem.W.Frag) : V → List V → Hp → VK → Prop := fun x xs H Q => ∃ (a : Addr) (ys : List V) (y : V), x = V.ref a ∧ xs = [y] ∧ SqL K H a ys ∧ flatV y = true ∧ ys.all flatV = true ∧ Q (.int (ys.countP (fun z => eqV z y) : Nat)) H
theorem countP_eqU {y : V} : ∀ {ys : List V} {us : List Value}, Vals ys us → ys.all flatV = true → us.countP (eqU y) = ys.countP (fun z => eqV z y)
  | _, _, .nil, _ => rfl
  | _, _, .cons r t, h => by
    rw [List.all_cons, Bool.and_eq_true] at h
    rw [List.countP_cons, List.countP_cons, countP_eqU t h.2, eqU_of r h.1]
theorem mt_countF {X : Cx} : MtR X "list.count" (rCountF X.K) := by
  intro pins s σ H x xs v us Q I rx rxs h
  obtain ⟨a, ys, y, rfl, rfl, hs, fy, fys, q⟩ := h
  cases rx
  cases rxs with
  | cons ry rt =>
    rename_i uy ut
    cases rt
    obtain ⟨its, rv, ⟨⟨cls, dd, data, sl⟩, n, ho, hc, hdn, hd⟩, hlen⟩ := I.list hs
    simp only at hc hd
    subst hc hd
    refine call_meets PySem.F.slot_list_count ⟨_, ho, rfl⟩ PySem.F.entry_list_count (PySem.F.args_list_count_2 _ _)
      (SeqAt.list_countAt a its.toArray n dd sl uy (eqU y)) ⟨ho, fun u' hu' => mem_eqAt ry fy rv fys u' (by simpa using hu'), ?_⟩
    have ec : its.toArray.toList.countP (eqU y) = ys.countP (fun z => eqV z y) := countP_eqU rv fys
    refine ⟨.int (ys.countP (fun z => eqV z y) : Nat), H, I.tok _, ⟨s.toks, ?_⟩, q⟩
    show Value.int ((its.toArray.toList.countP (eqU y) : Nat) : Int) s.toks = _
    rw [ec]

section
variable {N : Cn} {w : Pw} {H0 B H H' : Hp} {ow : Ow} {σ : L2.St} {ρ : PEnv}
/-! ### try -/
def pTry (x : Str) (ys : List Str) (pb : WP → PSt) (ps : PSt) (Wo : WP) : PSt := fun D ρ => pb (fun y ρ' => y ∈ ys ∧ if SUB y x = true then ps D ρ' else Wo y ρ') D ρ
theorem sim_try {K : PySem.W.Frag} {c : CEnv} {W : WX} {Wp : WP} {x : Str} {ys : List Str} {tb : WX → TS} {pb : WP → PSt} {ts : TS} {ps : PSt} (hb : ∀ W Wp, SimS ⟨K, c, W, Wp⟩ (tb W) (pb Wp)) (hs : SimS ⟨K, c, W, Wp⟩ ts ps) : SimS ⟨K, c, W, Wp⟩ (sTry K c x ys tb ts W) (pTry x ys pb ps Wp) := by
  intro w H0 B aw ow H σ ρ D D' a r z he
  refine hb _ _ w H0 B (fun y ow' H' σ' ρ' r' ⟨hy, q⟩ => ?_) ow H σ ρ D D' ⟨fun ow H σ ρ r q => a.nx _ _ _ _ r q, fun ow H σ ρ r q => a.bk _ _ _ _ r q, fun ow H σ ρ r q => a.ct _ _ _ _ r q, fun ow H σ ρ v d r h q => a.rt _ _ _ _ _ _ r h q⟩ r z
  refine ⟨SUB y x, he y hy, fun e b hb' => ?_, fun e => ?_⟩
  · rw [if_pos e] at q
    exact hs w H0 B aw ow' H' σ' ρ' D D' a r' q
  · rw [if_neg (by rw [e]; exact Bool.false_ne_true)] at q
    exact aw y ow' H' σ' ρ' r' q
/-! ### constants of the module -/
def dvD : DV → Da
  | .v .non => .non | .v (.bl b) => .bl b | .v (.int i) => .int i | .v (.str x) => .str x | .v _ => .non
  | .t xs => .tup (xs.map fun v => match v with | .non => .non | .bl b => .bl b | .int i => .int i | .str x => .str x | _ => .non)
def vD : V → Da | .non => .non | .bl b => .bl b | .int i => .int i | .str x => .str x | _ => .non
theorem flat_vD {K : PySem.W.Frag} {c : CEnv} {S : Option Addr} {G : Hp} {v : V} (h : flatV v = true) : Rp K c S G v (vD v) := by
  cases v <;> first | (cases h; done) | constructor
theorem flats_vD {K : PySem.W.Frag} {c : CEnv} {S : Option Addr} {G : Hp} : ∀ {vs : List V}, vs.all flatV = true → RpA K c S G vs (vs.map vD)
  | [], _ => .nil
  | v :: vs, h => by rw [List.all_cons, Bool.and_eq_true] at h; exact .cons (flat_vD h.1) (flats_vD h.2)
def pCstT (xs : List V) : PEx := fun _ Q => Q (.tup (xs.map vD))
theorem sim_cstT {xs : List V} (h : xs.all flatV = true := by rfl) : SimE N (tCstT N.K xs) (pCstT xs) := fun w H0 B aw ow H σ ρ Q Q' r q k => fun T e => k.flat r (.tup (e _) (flats_vD h)) q
/-! ### methods of lists -/
def pIndex : Da → List Da → (Da → Prop) → Prop := fun x ys Q => match x, ys with
  | .lst l, [y] => ∃ j z, flD y = true ∧ l.all flD = true ∧ l[j]? = some z ∧ eqD z y = true ∧ (∀ m u, m < j → l[m]? = some u → eqD u y = false) ∧ Q (.int (j : Nat))
  | _, _ => False
def pCount : Da → List Da → (Da → Prop) → Prop := fun x ys Q => match x, ys with
  | .lst l, [y] => flD y = true ∧ l.all flD = true ∧ Q (.int (l.countP (fun z => eqD z y) : Nat))
  | _, _ => False
def SimM (N : Cn) (r : V → List V → Hp → VK → Prop) (q : Da → List Da → (Da → Prop) → Prop) : Prop := ∀ w H0 B ow H σ ρ x dx ys ds Q Q', Rel N.K N.c w H0 B ow H σ ρ → Rp N.K N.c w.st (dh w ow H) x dx → RpA N.K N.c w.st (dh w ow H) ys ds → q dx ds Q' → Post N w H0 B ow H σ ρ Q' Q → r x ys H Q
def pBM (q : Da → List Da → (Da → Prop) → Prop) (a : PEx) (t : PAr) : PEx := fun ρ Q => a ρ fun x => (∃ l, x = .lst l) ∧ t ρ fun ys => q x ys Q
theorem sim_bm {r : V → List V → Hp → VK → Prop} {q : Da → List Da → (Da → Prop) → Prop} {a : TE} {t : TA} {p : PEx} {pt : PAr} (hr : SimM N r q) (ha : SimE N a p) (ht : SimA N t pt) : SimE N (tBM N.K "list" r a t) (pBM q p pt) := by
  intro w H0 B aw ow H σ ρ Q Q' rr h k
  refine ha w H0 B aw ow H σ ρ _ _ rr h fun x dx H1 r1 s1 h1 ⟨⟨l, e⟩, q1⟩ => ?_
  subst e
  have h1' := h1
  obtain ⟨b, xs, rfl, eb, rb⟩ := rpL h1
  refine ⟨tyL (hid_le _ _ eb), ht w H0 B aw ow H1 σ ρ _ _ r1 q1 fun ys ds H2 r2 s2 h2 q2 => ?_⟩
  exact hr w H0 B ow H2 σ ρ _ _ ys ds Q Q' r2 (rpS (s2.dh r1) h1') h2 q2 (k.then (Ex.trans s1 s2) fun _ q => q)
theorem simM_index : SimM N (rIndex N.K) pIndex := by
  intro w H0 B ow H σ ρ x dx ys ds Q Q' r hx hy h k
  unfold pIndex at h
  split at h
  · rename_i l y
    obtain ⟨j, z, fy, fl, ez, eq', hm, q⟩ := h
    obtain ⟨v, rfl, a⟩ := rps1 hy
    obtain ⟨p, xs, rfl, e, rr⟩ := rpL hx
    obtain ⟨u, eu, ru⟩ := rpsGet rr ez
    have fz : flD z = true := all_get fl ez
    refine ⟨p, xs, v, j, u, rfl, rfl, SqL.of (hid_le _ _ e), flV_of a fy, flVs_of rr fl, eu, by rw [eqV_of ru a fz fy]; exact eq', fun m u' hmj hu' => ?_, k.flat r (.int _) q⟩
    obtain ⟨d', ed', rd'⟩ := rpsGetV rr hu'
    rw [eqV_of rd' a (all_get fl ed') fy]
    exact hm m d' hmj ed'
  · exact h.elim
theorem countP_of {K : PySem.W.Frag} {c : CEnv} {S : Option Addr} {G : Hp} {v : V} {d : Da} (h : Rp K c S G v d) (f : flD d = true) : ∀ {vs : List V} {ds : List Da}, RpA K c S G vs ds → ds.all flD = true → vs.countP (fun z => eqV z v) = ds.countP (fun z => eqD z d)
  | _, [], r, _ => by rw [rps0 r]; rfl
  | _, e :: ds, r, g => by
    obtain ⟨u, ws, rfl, a, b⟩ := rpsC r
    rw [List.all_cons, Bool.and_eq_true] at g
    rw [List.countP_cons, List.countP_cons, eqV_of a h g.1 f, countP_of h f b g.2]
theorem simM_count : SimM N (rCountF N.K) pCount := by
  intro w H0 B ow H σ ρ x dx ys ds Q Q' r hx hy h k
  unfold pCount at h
  split at h
  · obtain ⟨fy, fl, q⟩ := h
    obtain ⟨v, rfl, a⟩ := rps1 hy
    obtain ⟨p, xs, rfl, e, rr⟩ := rpL hx
    exact ⟨p, xs, v, rfl, rfl, SqL.of (hid_le _ _ e), flV_of a fy, flVs_of rr fl, by rw [countP_of a fy rr fl]; exact k.flat r (.int _) q⟩
  · exact h.elim
def pLenSet (a : PEx) : PEx := fun ρ Q => a ρ fun x => ∃ ns : List Int, x = .lst (ns.map Da.int) ∧ ns.length ≤ 4000 ∧ Q (.int (setN ns : Nat))
theorem sim_lenSet {t : TE} {p : PEx} (h : SimE N t p) : SimE N (tLenSet N.K t) (pLenSet p) := by
  intro w H0 B aw ow H σ ρ Q Q' r z k
  refine h w H0 B aw ow H σ ρ _ _ r z fun v d H1 r1 s1 h1 ⟨ns, e, hl, q⟩ => ?_
  subst e
  obtain ⟨p, xs, rfl, e, rr⟩ := rpL h1
  obtain rfl := rpsI rr
  exact ⟨p, ns, rfl, SqL.of (hid_le _ _ e), hl, k _ _ H1 r1 s1 (.int _) q⟩
end
/-! ### a def keeps a promise about data -/
def startP (n : Nat) (ds : List Da) : PEnv := ds.map (fun d => some (.d d)) ++ List.replicate (n - ds.length) none
section
variable {K : PySem.W.Frag} {c : CEnv}
theorem start_rel {S : Option (Addr × Addr)} {O : List Addr} {H : Hp} {vs : List V} {ds : List Da} {Nn : List Str} (oc : Occ H O) (dr : ∀ st L, S = some (st, L) → Draw H st L ∧ st ∈ O) (r : RpA K c (S.map (·.1)) (hid H O) vs ds) :
    Rel K c ⟨S, O, (S.map (·.1)).toList, none⟩ H (hid H O) [] H (L2.start Nn vs) (startP Nn.length ds) := by
  refine ⟨oc, fun st L e => ?_, fun p h => by (cases h), fun p h => by (cases h), fun a o _ e => e, fun p h => by (cases h), ?_, fun i x e => ?_, Same.refl _⟩
  · have e : S = some (st, L) := e
    refine ⟨(dr st L e).1, (dr st L e).2, ?_⟩
    subst e; simp
  · unfold L2.start startP
    simp [rpsLen r]
  · unfold startP at e
    have hl := rpsLen r
    rw [List.getElem?_append] at e
    split at e
    · rename_i lt
      rw [List.length_map] at lt
      rw [List.getElem?_map] at e
      cases ed : ds[i]? with
      | none => rw [ed] at e; cases e
      | some d =>
        rw [ed] at e
        cases e
        obtain ⟨v, ev, rv⟩ := rpsGet r ed
        refine ⟨v, ?_, rv⟩
        unfold L2.start
        rw [List.getElem?_append_left (by rw [List.length_map]; omega), List.getElem?_map, ev]; rfl
    · rw [List.getElem?_replicate] at e
      split at e <;> cases e
theorem Rel.exO {S : Option (Addr × Addr)} {O : List Addr} {H0 B H : Hp} {ow : Ow} {σ : L2.St} {ρ : PEnv} (r : Rel K c ⟨S, O, (S.map (·.1)).toList, none⟩ H0 B ow H σ ρ) : Ex S H0 H := by
  refine ⟨fun a o n e => r.fr a o (fun m => ?_) e, fun st L e => (r.dr st L e).1⟩
  cases S with
  | none => simp at m
  | some z => obtain ⟨st, L⟩ := z; simp at m; exact n st L rfl m
theorem out_rp {S : Option (Addr × Addr)} {O M : List Addr} {H : Hp} {ow : Ow} {v : V} {d : Da} (h : Rp K c (S.map (·.1)) (dh ⟨S, O, M, none⟩ ow H) v d) : Rp K c (S.map (·.1)) (hid H O) v d := rpS (hid_sub fun a ha => List.mem_append_right _ ha) h
theorem wd_lift {T : TS} {P : PSt} {Nn : List Str} {n : Nat} {ps : PSp} (hS : SimS ⟨K, c, W0, fun _ _ => False⟩ T P) (hp : ∀ ds Q E, ps ds Q E → ds.length = n ∧ P { nx := fun _ => Q .non, rt := Q } (startP Nn.length ds)) : Wd T Nn n (lift K c ps) := by
  rintro vs H Q E ⟨S, O, ds, Q', E', oc, dr, r, p, q, _⟩
  obtain ⟨hl, z⟩ := hp ds Q' E' p
  refine ⟨(rpsLen r).trans hl, ?_⟩
  refine hS ⟨S, O, (S.map (·.1)).toList, none⟩ H (hid H O) (fun _ _ _ _ _ _ f => f.elim) [] H _ _ _ { nx := fun _ => Q' .non, rt := Q' } ⟨fun ow H1 σ ρ r1 q1 => q _ _ H1 r1.exO .non q1, fun _ _ _ _ _ f => f.elim, fun _ _ _ _ _ f => f.elim, fun ow H1 σ ρ v d r1 h1 q1 => q v d H1 r1.exO (out_rp h1) q1⟩ (start_rel oc dr r) z
theorem wd_liftX {T : WX → TS} {P : WP → PSt} {Nn : List Str} {n : Nat} {ps : PSp} (hS : ∀ W Wp, SimS ⟨K, c, W, Wp⟩ (T W) (P Wp)) (hp : ∀ ds Q E, ps ds Q E → ds.length = n ∧ P (fun x _ => E x) { nx := fun _ => Q .non, rt := Q } (startP Nn.length ds)) : WdX T Nn n (lift K c ps) := by
  rintro vs H Q E ⟨S, O, ds, Q', E', oc, dr, r, p, q, qe⟩
  obtain ⟨hl, z⟩ := hp ds Q' E' p
  refine ⟨(rpsLen r).trans hl, ?_⟩
  refine hS _ _ ⟨S, O, (S.map (·.1)).toList, none⟩ H (hid H O) (fun x ow H1 σ ρ r1 e1 => qe x H1 r1.exO e1) [] H _ _ _ { nx := fun _ => Q' .non, rt := Q' } ⟨fun ow H1 σ ρ r1 q1 => q _ _ H1 r1.exO .non q1, fun _ _ _ _ _ f => f.elim, fun _ _ _ _ _ f => f.elim, fun ow H1 σ ρ v d r1 h1 q1 => q v d H1 r1.exO (out_rp h1) q1⟩ (start_rel oc dr r) z
/-- __init__ -/
def startI (x : Str) (gs : List Str) (n : Nat) (ds : List Da) : PEnv := some (.obj x gs [] []) :: startP (n - 1) ds
theorem start_relI {S : Option (Addr × Addr)} {O : List Addr} {H : Hp} {vs : List V} {ds : List Da} {Nn : List Str} {x : Str} {gs : List Str} {p dx : Addr} (oc : Occ H O) (dr : ∀ st L, S = some (st, L) → Draw H st L ∧ st ∈ O ∧ p ≠ st ∧ p ≠ L) (ok : ClsOk K c x gs) (hp : H p = some (.ins (c.cls x) dx [])) (np : p ∉ O) (r : RpA K c (S.map (·.1)) (hid H (p :: O)) vs ds) (hn : 0 < Nn.length) :
    Rel K c ⟨S, O, p :: (S.map (·.1)).toList, some p⟩ H (hid H (p :: O)) [(0, p)] H (L2.start Nn (.ref p :: vs)) (startI x gs Nn.length ds) := by
  obtain ⟨n0, Nt, rfl⟩ : ∃ a l, Nn = a :: l := by cases Nn with | nil => simp at hn | cons a l => exact ⟨a, l, rfl⟩
  refine ⟨Occ.cons hp oc, fun st L e => ?_, fun q h => ?_, fun q h q' h' _ => ?_, fun a o _ e => e, fun q h => ?_, ?_, fun i y e => ?_, Same.refl _⟩
  · have e : S = some (st, L) := e
    refine ⟨(dr st L e).1, (dr st L e).2.1, ?_⟩
    subst e; simp
  · obtain rfl := List.mem_singleton.mp h
    exact ⟨fun st L e => (dr st L e).2.2, np⟩
  · rw [List.mem_singleton.mp h, List.mem_singleton.mp h']
  · obtain rfl := List.mem_singleton.mp h
    exact .inr (List.mem_cons_self ..)
  · unfold L2.start startI startP
    simp [rpsLen r]
  · unfold startI at e
    cases i with
    | zero =>
      cases e
      exact ⟨p, dx, [], List.mem_cons_self .., by unfold L2.start; rfl, ⟨ok, rfl⟩, by rw [hp]; rfl, rfl, .nil⟩
    | succ i =>
      rw [List.getElem?_cons_succ] at e
      unfold startP at e
      have hl := rpsLen r
      rw [List.getElem?_append] at e
      split at e
      · rename_i lt
        rw [List.length_map] at lt
        rw [List.getElem?_map] at e
        cases ed : ds[i]? with
        | none => rw [ed] at e; cases e
        | some d =>
          rw [ed] at e
          cases e
          obtain ⟨v, ev, rv⟩ := rpsGet r ed
          refine ⟨v, ?_, rv⟩
          unfold L2.start
          rw [List.map_cons, List.cons_append, List.getElem?_cons_succ, List.getElem?_append_left (by rw [List.length_map]; omega), List.getElem?_map, ev]; rfl
      · rw [List.getElem?_replicate] at e
        split at e <;> cases e
theorem Rel.exI {S : Option (Addr × Addr)} {O : List Addr} {p : Addr} {H0 B H : Hp} {ow : Ow} {σ : L2.St} {ρ : PEnv} (r : Rel K c ⟨S, O, p :: (S.map (·.1)).toList, some p⟩ H0 B ow H σ ρ) : (∀ a o, (∀ st L, S = some (st, L) → a ≠ st) → a ≠ p → H0 a = some o → H a = some o) ∧ ∀ st L, S = some (st, L) → Draw H st L := by
  refine ⟨fun a o n np e => r.fr a o (fun m => ?_) e, fun st L e => (r.dr st L e).1⟩
  cases S with
  | none => simp at m; exact np m
  | some z =>
    obtain ⟨st, L⟩ := z; simp at m
    rcases m with m | m
    · exact np m
    · exact n st L rfl m
/-- at the end self stands whole -/
def endI (x : Str) (gs : List Str) (Q : List Da → Prop) : PEnv → Prop := fun ρ => ∃ l, ρ[0]? = some (some (.obj x gs gs l)) ∧ Q l
theorem end_rpI {S : Option (Addr × Addr)} {O : List Addr} {p : Addr} {H0 B H : Hp} {ow : Ow} {σ : L2.St} {ρ : PEnv} {x : Str} {gs : List Str} {l : List Da} (r : Rel K c ⟨S, O, p :: (S.map (·.1)).toList, some p⟩ H0 B ow H σ ρ) (e : ρ[0]? = some (some (.obj x gs gs l))) : Rp K c (S.map (·.1)) (hid H O) (.ref p) (.ins x gs l) := by
  obtain ⟨b, dx, vs, m, es, ⟨ok, eq⟩, eb, hl, rl⟩ := r.sl 0 _ e
  obtain rfl : p = b := Option.some.inj eq
  exact .ins ok (hid_lk (r.nd _ m).2 eb) hl (rpsS (hid_sub fun a ha => List.mem_append_right _ ha) rl)
theorem wd_liftI {T : TS} {P : PSt} {Nn : List Str} {n : Nat} {x : Str} {gs : List Str} {ps : PSi} (hS : SimS ⟨K, c, W0, fun _ _ => False⟩ T P) (hn : 0 < Nn.length) (hp : ∀ ds Q E, ps ds Q E → ds.length + 1 = n ∧ P { nx := endI x gs Q, rt := fun _ => False } (startI x gs Nn.length ds)) : Wd T Nn n (liftI K c x gs ps) := by
  rintro us H Q E ⟨S, O, p, dx, vs, ds, Q', E', rfl, oc, dr, ok, hp', np, r, z, q, _⟩
  obtain ⟨hl, z⟩ := hp ds Q' E' z
  refine ⟨by rw [List.length_cons, rpsLen r]; exact hl, ?_⟩
  refine hS ⟨S, O, p :: (S.map (·.1)).toList, some p⟩ H _ (fun _ _ _ _ _ _ f => f.elim) _ H _ _ _ { nx := endI x gs Q', rt := fun _ => False } ⟨fun ow H1 σ ρ r1 ⟨l, e1, q1⟩ => q l H1 r1.exI.1 r1.exI.2 (end_rpI r1 e1) q1, fun _ _ _ _ _ f => f.elim, fun _ _ _ _ _ f => f.elim, fun _ _ _ _ _ _ _ _ f => f.elim⟩ (start_relI oc dr ok hp' np r hn) z
theorem wd_liftIX {T : WX → TS} {P : WP → PSt} {Nn : List Str} {n : Nat} {x : Str} {gs : List Str} {ps : PSi} (hS : ∀ W Wp, SimS ⟨K, c, W, Wp⟩ (T W) (P Wp)) (hn : 0 < Nn.length) (hp : ∀ ds Q E, ps ds Q E → ds.length + 1 = n ∧ P (fun y _ => E y) { nx := endI x gs Q, rt := fun _ => False } (startI x gs Nn.length ds)) : WdX T Nn n (liftI K c x gs ps) := by
  rintro us H Q E ⟨S, O, p, dx, vs, ds, Q', E', rfl, oc, dr, ok, hp', np, r, z, q, qe⟩
  obtain ⟨hl, z⟩ := hp ds Q' E' z
  refine ⟨by rw [List.length_cons, rpsLen r]; exact hl, ?_⟩
  refine hS _ _ ⟨S, O, p :: (S.map (·.1)).toList, some p⟩ H _ (fun y ow H1 σ ρ r1 e1 => qe y H1 r1.exI.1 r1.exI.2 e1) _ H _ _ _ { nx := endI x gs Q', rt := fun _ => False } ⟨fun ow H1 σ ρ r1 ⟨l, e1, q1⟩ => q l H1 r1.exI.1 r1.exI.2 (end_rpI r1 e1) q1, fun _ _ _ _ _ f => f.elim, fun _ _ _ _ _ f => f.elim, fun _ _ _ _ _ _ _ _ f => f.elim⟩ (start_relI oc dr ok hp' np r hn) z
end

/-! == of tuples and lists whose items may be own instances: both answers, and objects may be made meanwhile -/
namespace ZG
open PySem PySem.SeqAt GQ
open MeetsSeq MeetsSeq2 MeetsSeq3 SeqRoads2
section
variable {prog : Program} {w : World} {A : Around} {R : Result → Shared → Prop}
theorem all_pre {e : Nat → Bool} : ∀ {n i : Nat}, i ≤ n → (∀ j, j < i → e j = true) → ((List.range n).all e = ((List.range n).drop i).all e)
  | n, 0, _, _ => by rw [List.drop_zero]
  | n, i + 1, h, p => by
    rw [all_pre (i := i) (by omega) fun j hj => p j (by omega)]
    have hd : (List.range n).drop i = i :: (List.range n).drop (i + 1) := by
      have : i < (List.range n).length := by simp; omega
      rw [List.drop_eq_getElem_cons this]; simp
    rw [hd, List.all_cons, p i (by omega), Bool.true_and]
theorem tuple_eqB (l b : Addr) (items items2 : Array Value) (n n2 : Nat) (dd dd2 : Option Addr) (sl sl2 : Array (Option Value)) (e : Nat → Bool) (I : Nat → Shared → Prop)
    (turn : ∀ i (h1 : i < items.size) (h2 : i < items2.size) s, I i s → wpAny (model prog w) A.in1 (eqBool items[i] items2[i]) (fun r s' => r = e i ∧ I (i + 1) s') (fun e s' => R (.error e) s') s)
    (fin : ∀ i s, I i s → R (.ok (.ret (.bool ((List.range (min items.size items2.size)).all e && items.size == items2.size)))) s) {s : Shared} (hl1 : s.heap.get? l = some { cls := .type "tuple", dict := dd, data := .seq items n, slots := sl }) (hb1 : s.heap.get? b = some { cls := .type "tuple", dict := dd2, data := .seq items2 n2, slots := sl2 }) (h : I 0 s) :
    wpAny (model prog w) A.in1 (Builtin.«tuple.__eq__» ⟨[.ref l, .ref b], []⟩) (FinOf prog w A R) (fun e s' => R (.error e) s') s := by
  have f2 := AutoSeq1.sub_tuple_tuple
  have hZ : (items.toList.zip items2.toList).length = min items.size items2.size := by simp
  have h0 := h
  obtain ⟨hp, g, d, tk, os⟩ := s
  wp_walk using AutoSeq1.wpAny_loadPart' hl1, AutoSeq1.wpAny_loadPart' hb1, wpAny_forIn_list _ (fun rest b s' => b.1 = none ∧ ∃ i, rest = (items.toList.zip items2.toList).drop i ∧ i ≤ min items.size items2.size ∧ (∀ j, j < i → e j = true) ∧ I i s') _
  case turn =>
    rintro ⟨y, x⟩ rest b s' ⟨hb', i, hz, hi, he, hI⟩
    have hlt : i < (items.toList.zip items2.toList).length := by
      rcases Nat.lt_or_ge i (items.toList.zip items2.toList).length with h' | h'
      · exact h'
      · rw [List.drop_of_length_le h'] at hz; cases hz
    have hm : i < min items.size items2.size := hZ ▸ hlt
    have h1 : i < items.size := Nat.lt_of_lt_of_le hm (Nat.min_le_left _ _)
    have h2 : i < items2.size := Nat.lt_of_lt_of_le hm (Nat.min_le_right _ _)
    rw [List.drop_eq_getElem_cons hlt] at hz
    injection hz with hyx hrest
    have hy : y = items[i] := by have := congrArg Prod.fst hyx; simpa using this
    have hx : x = items2[i] := by have := congrArg Prod.snd hyx; simpa using this
    subst hy hx
    refine wpAny_bind (wpAny_mono (turn i h1 h2 s' hI) (fun r s2 q2 => ?_) fun _ _ x => x)
    obtain ⟨hr, q2⟩ := q2
    cases hy : e i with
    | true =>
      rw [hy] at hr
      subst hr
      wp_walk
      exact ⟨rfl, i + 1, hrest, hm, fun j hj => by
        rcases Nat.lt_succ_iff_lt_or_eq.mp hj with z | z
        · exact he j z
        · rw [z]; exact hy, q2⟩
    | false =>
      rw [hy] at hr
      subst hr
      have hR := fin (i + 1) s2 q2
      rw [all_pre hi he, show (List.range (min items.size items2.size)).drop i = i :: (List.range (min items.size items2.size)).drop (i + 1) by simp [List.drop_eq_getElem_cons, hm], List.all_cons, hy] at hR
      wp_walk
      simpa using hR
  case fin =>
    rintro ⟨b1, b2⟩ s' ⟨hb', i, hz, hi, he, hI⟩
    simp only at hb'
    subst hb'
    have hge : min items.size items2.size ≤ i := by
      rcases Nat.lt_or_ge i (items.toList.zip items2.toList).length with h' | h'
      · rw [List.drop_eq_getElem_cons h'] at hz; cases hz
      · exact hZ ▸ h'
    have hR := fin i s' hI
    rw [all_pre hi he, List.drop_of_length_le (by simpa using hge)] at hR
    wp_walk
    simpa [Builtin.Tuple.tupleCompareSizes] using hR
  case h =>
    exact ⟨rfl, 0, rfl, Nat.zero_le _, fun j hj => absurd hj (Nat.not_lt_zero _), h0⟩
/-- at each turn the two lists are read anew -/
def ListB (prog : Program) (w : World) (A : Around) (E : Value → Shared → Prop) (l b : Addr) (N : Nat) (e : Nat → Bool) (I : Nat → Shared → Prop) : Prop :=
  ∀ i s, I i s → ∃ (items items2 : Array Value) (n n2 : Nat), s.heap.get? l = some { cls := .type "list", data := .seq items n } ∧ s.heap.get? b = some { cls := .type "list", data := .seq items2 n2 } ∧ items.size = N ∧ items2.size = N ∧
    ∀ (h1 : i < items.size) (h2 : i < items2.size), wpAny (model prog w) A.in1 (eqBool items[i] items2[i]) (fun r s' => r = e i ∧ I (i + 1) s') E s
theorem eq_loopB (l b : Addr) (N : Nat) (e : Nat → Bool) (I : Nat → Shared → Prop) (hl : ListB prog w A (fun e s' => R (.error e) s') l b N e I)
    (fin : ∀ i s, I i s → R (.ok (.ret (.bool ((List.range N).all e)))) s) (k : Nat) :
    ∀ i : Nat, N - i = k → i ≤ N → (∀ j, j < i → e j = true) → ∀ s, I i s →
      wpAny (model prog w) A.in1 (Builtin.«list.__eq__.loop» ⟨[.ref l, .ref b, rawInt i, rawInt 2], []⟩) (FinOf prog w A R) (fun e s' => R (.error e) s') s := by
  induction k with
  | zero =>
    intro i hk hi he s h
    obtain ⟨items, items2, n, n2, hl1, hb1, hs1, hs2, _⟩ := hl _ _ h
    have hi' : i = N := by omega
    have hR := fin i s h
    rw [all_pre hi he, List.drop_of_length_le (by simp; omega), List.all_nil] at hR
    obtain ⟨hp, g, d, tk, os⟩ := s
    wp_walk using AutoSeq1.wpAny_loadPart' hl1, AutoSeq1.wpAny_loadPart' hb1
    have hi1 : items[((i : Nat) : Int).toNat]? = none := by simp; omega
    have hi2 : items2[((i : Nat) : Int).toNat]? = none := by simp; omega
    rw [hi1, hi2]
    wp_walk using AutoSeq1.wpAny_loadPart' hl1, AutoSeq1.wpAny_loadPart' hb1
    show R (.ok (.ret (.bool (items.size == items2.size)))) _
    rw [hs1, hs2]
    simpa using hR
  | succ k ih =>
    intro i hk hi he s h
    obtain ⟨items, items2, n, n2, hl1, hb1, hs1, hs2, turn⟩ := hl _ _ h
    have hlt : i < items.size := by omega
    have hlt2 : i < items2.size := by omega
    have ht := turn hlt hlt2
    obtain ⟨hp, g, d, tk, os⟩ := s
    wp_walk using AutoSeq1.wpAny_loadPart' hl1, AutoSeq1.wpAny_loadPart' hb1
    have hi1 : items[((i : Nat) : Int).toNat]? = some items[i] := by simp [hlt]
    have hi2 : items2[((i : Nat) : Int).toNat]? = some items2[i] := by simp [hlt2]
    have hc : ((i : Int) + 1) = ((i + 1 : Nat) : Int) := by omega
    rw [hi1, hi2]
    refine wpAny_bind (wpAny_mono ht (fun r s2 h2 => ?_) fun _ _ x => x)
    obtain ⟨hr, h2⟩ := h2
    cases hb' : e i with
    | true =>
      rw [hb'] at hr
      subst hr
      have hrec := ih (i + 1) (by omega) (by omega) (fun j hj => by
        rcases Nat.lt_succ_iff_lt_or_eq.mp hj with z | z
        · exact he j z
        · rw [z]; exact hb') s2 h2
      obtain ⟨hp2, g2, d2, tk2, os2⟩ := s2
      wp_walk
      rw [hc]
      exact ⟨plainId_quiet plain_eq_loop _, codeAny_builtin entry_eq_loop (by
        rw [Around.under_plainId plain_eq_loop _]
        exact hrec)⟩
    | false =>
      rw [hb'] at hr
      subst hr
      have hR := fin (i + 1) s2 h2
      rw [all_pre hi he, show (List.range N).drop i = i :: (List.range N).drop (i + 1) by
        have : i < (List.range N).length := by simp; omega
        rw [List.drop_eq_getElem_cons this]; simp, List.all_cons, hb'] at hR
      obtain ⟨items3, items4, n3, n4, hl3, hb3, hs3, hs4, _⟩ := hl _ _ h2
      have hi3 : items3[((i : Nat) : Int).toNat]? = some (items3[i]'(by omega)) := by simp
      have hi4 : items4[((i : Nat) : Int).toNat]? = some (items4[i]'(by omega)) := by simp
      obtain ⟨hp2, g2, d2, tk2, os2⟩ := s2
      wp_walk using AutoSeq1.wpAny_loadPart' hl3, AutoSeq1.wpAny_loadPart' hb3
      rw [hi3, hi4]
      wp_walk
      simpa using hR
theorem list_eqB (l b : Addr) (N : Nat) (e : Nat → Bool) (I : Nat → Shared → Prop) (hl : ListB prog w A (fun e s' => R (.error e) s') l b N e I)
    (fin : ∀ i s, I i s → R (.ok (.ret (.bool ((List.range N).all e)))) s) {s : Shared} (h : I 0 s) :
    wpAny (model prog w) A.in1 (Builtin.«list.__eq__» ⟨[.ref l, .ref b], []⟩) (FinOf prog w A R) (fun e s' => R (.error e) s') s := by
  obtain ⟨items, items2, n, n2, hl1, hb1, hs1, hs2, _⟩ := hl _ _ h
  have hrec := eq_loopB (A := A) (R := R) l b N e I hl fin _ 0 rfl (Nat.zero_le _) (fun j hj => absurd hj (Nat.not_lt_zero _)) s h
  obtain ⟨hp, g, d, tk, os⟩ := s
  have f3 := AutoSeq1.sub_list_list
  have hne : ¬ (items.size != items2.size) = true := by simp [hs1, hs2]
  wp_walk using AutoSeq1.wpAny_loadPart' hl1, AutoSeq1.wpAny_loadPart' hb1
  exact ⟨plainId_quiet plain_eq_loop _, codeAny_builtin entry_eq_loop (by
    rw [Around.under_plainId plain_eq_loop _]
    exact hrec)⟩
end
section
variable {prog : Program} {w : World} {A : Around} {E : Value → Shared → Prop} {s : Shared}
theorem rc_listB {l b : Addr} {N : Nat} {Q : Value → Shared → Prop} (hu : A.units < cLine) (e : Nat → Bool) (I : Nat → Shared → Prop) (hl : ListB prog w A E l b N e I)
    (fin : ∀ i s, I i s → Q (.bool ((List.range N).all e)) s) (h : I 0 s) : wpAny (model prog w) A (richCompare .Eq (.ref l) (.ref b)) Q E s := by
  obtain ⟨items, items2, n, n2, hl1, hb1, _, _, _⟩ := hl _ _ h
  refine wpAny_richCompare_same_room (op := .Eq) ⟨_, hl1, rfl⟩ ⟨_, hb1, rfl⟩ F.slot_list_eq (GQ.call_here F.slot_list_eq ⟨_, hl1, rfl⟩ F.entry_list_eq (F.args_list_eq_2 _ _) ?_) hu
  exact list_eqB (R := wants (fun v s' => v ≠ .notImplemented ∧ Q v s') E) l b N e I hl (fun i s' q => ⟨(fun x => nomatch x), fin i s' q⟩) h
theorem rc_tupB {l b : Addr} {items items2 : Array Value} {Q : Value → Shared → Prop} (hu : A.units < cLine) (e : Nat → Bool) (I : Nat → Shared → Prop)
    (hl : s.heap.IsTuple l items) (hb : s.heap.IsTuple b items2)
    (turn : ∀ i (h1 : i < items.size) (h2 : i < items2.size) s, I i s → wpAny (model prog w) A.in1 (eqBool items[i] items2[i]) (fun r s' => r = e i ∧ I (i + 1) s') E s)
    (fin : ∀ i s, I i s → Q (.bool ((List.range (min items.size items2.size)).all e && items.size == items2.size)) s) (h : I 0 s) : wpAny (model prog w) A (richCompare .Eq (.ref l) (.ref b)) Q E s := by
  obtain ⟨⟨cls, dd, data, sl⟩, ho, hc, n, hd⟩ := id hl
  obtain ⟨⟨cls2, dd2, data2, sl2⟩, ho2, hc2, n2, hd2⟩ := id hb
  simp only at hc hd hc2 hd2
  subst hc hd hc2 hd2
  refine wpAny_richCompare_same_room (op := .Eq) ⟨_, ho, rfl⟩ ⟨_, ho2, rfl⟩ F.slot_tuple_eq (GQ.call_here F.slot_tuple_eq ⟨_, ho, rfl⟩ F.entry_tuple_eq (F.args_tuple_eq_2 _ _) ?_) hu
  exact tuple_eqB (R := wants (fun v s' => v ≠ .notImplemented ∧ Q v s') E) l b items items2 n n2 dd dd2 sl sl2 e I turn (fun i s' q => ⟨(fun x => nomatch x), fin i s' q⟩) ho ho2 h
end
end ZG

/-- what own == is known of: class, its promise -/
abbrev ETab := List (Str × PSp)
/-- what may be compared, own instances too -/
def CqX (tab : ETab) : Nat → Da → Da → Prop
  | 0, x, y => flD x = true ∧ flD y = true
  | n + 1, x, y => (flD x = true ∧ flD y = true) ∨ (∃ a b, x = .tup a ∧ y = .tup b ∧ ∀ (i : Nat) (u v : Da), a[i]? = some u → b[i]? = some v → CqX tab n u v) ∨
      (∃ a b, x = .lst a ∧ y = .lst b ∧ ∀ (i : Nat) (u v : Da), a[i]? = some u → b[i]? = some v → CqX tab n u v) ∨
      ∃ k ks a, x = .ins k ks a ∧ (∃ ps, (k, ps) ∈ tab ∧ ps [x, y] (fun r => r = .bl (eqD x y)) (fun _ => False)) ∧ eqD x x = true ∧ ((∃ k2 ks2 b, y = .ins k2 ks2 b ∧ (k2 = k ∨ ((∃ ps2, (k2, ps2) ∈ tab) ∧ SUB k2 k = false))) ∨ okTy y = true)
/-- the classes of the table keep their promises at a level at most k -/
def ETabF (P : Program) (w : World) (K : PySem.W.Frag) (mg : Str → Option Value) (base : Heap) (c : CEnv) (k : Nat) (tab : ETab) : Prop := ∀ z ∈ tab, IsF K c z.1 ∧ (∃ gs, ClsOk K c z.1 gs) ∧ ∃ (f : Addr) (fd : FuncData) (pn : List Str) (k' : Nat) (sp : Sp), k' ≤ k ∧ Meth K (c.cls z.1) "__eq__" f ∧ Binds K fd pn [] ∧ FnOk P w K mg base CX0 k' f fd pn sp ∧ SpSim K c sp z.2
abbrev ETabOk (X : Cx) (c : CEnv) (k : Nat) (tab : ETab) : Prop := ETabF X.prog X.w X.K X.mg X.base c k tab
theorem FnOk.mono' {P : Program} {w : World} {K : PySem.W.Frag} {mg : Str → Option Value} {base : Heap} {CX : CXT} {k k' : Nat} {f : Addr} {fd : FuncData} {ps : List Str} {sp : Sp} (h : FnOk P w K mg base CX k f fd ps sp) : FnOk P w K mg base CX k f fd ps sp := h
section
variable {X : Cx} {c : CEnv} {k : Nat} {tab : ETab} {S : Option (Addr × Addr)} {O : List Addr}
def GoodH (S : Option (Addr × Addr)) (O : List Addr) (H : Hp) : Prop := Occ H O ∧ ∀ st L, S = some (st, L) → Draw H st L ∧ st ∈ O
theorem GoodH.ex {H H' : Hp} (g : GoodH S O H) (x : Ex S H H') : GoodH S O H' := ⟨g.1.ex x, fun st L e => ⟨x.2 st L e, (g.2 st L e).2⟩⟩
def EqGX (X : Cx) (c : CEnv) (n : Nat) (S : Option (Addr × Addr)) (O : List Addr) (d e : Da) : Prop := ∀ (A : Around) (pins : List (Addr × Obj)) (s : Shared) (σ : L2.St) (H : Hp) (x y : V) (u v : Value), Sub X n A → Inv X pins σ H s → GoodH S O H → RelV x u → RelV y v → Rp X.K c (S.map (·.1)) (hid H O) x d → Rp X.K c (S.map (·.1)) (hid H O) y e →
  wpAny (model X.prog X.w) A (eqBool u v) (fun r s' => r = eqD d e ∧ ∃ H', Inv X pins σ H' s' ∧ Ex S H H') X.xe s
def RcGX (X : Cx) (c : CEnv) (n : Nat) (S : Option (Addr × Addr)) (O : List Addr) (d e : Da) : Prop := ∀ (A : Around) (pins : List (Addr × Obj)) (s : Shared) (σ : L2.St) (H : Hp) (x y : V) (u v : Value), Sub X n A → Inv X pins σ H s → GoodH S O H → RelV x u → RelV y v → Rp X.K c (S.map (·.1)) (hid H O) x d → Rp X.K c (S.map (·.1)) (hid H O) y e →
  wpAny (model X.prog X.w) A (richCompare .Eq u v) (fun r s' => r = .bool (eqD d e) ∧ ∃ H', Inv X pins σ H' s' ∧ Ex S H H') X.xe s
theorem flat_EqGX {d e : Da} (n : Nat) (h1 : flD d = true) (h2 : flD e = true) : EqGX X c n S O d e := by
  intro A pins s σ H x y u v sb I g rx ry hx hy
  have q := eqAt_V (A := A) (s := s) rx ry (flV_of hx h1) (flV_of hy h2)
  rw [eqV_of hx hy h1 h2] at q
  exact q X.prog X.w X.xe _ ⟨rfl, H, I, Ex.of (Same.refl H) fun st L e => (g.2 st L e).1⟩
theorem zip_inj {α : Type} : ∀ {ks ls : List Str} {vs us : List α}, vs.length = ks.length → us.length = ls.length → ks.zip vs = ls.zip us → ks = ls ∧ vs = us
  | [], [], [], [], _, _, _ => ⟨rfl, rfl⟩
  | [], [], v :: vs, _, h, _, _ => by simp at h
  | [], [], [], u :: us, _, h, _ => by simp at h
  | [], l :: ls, _, [], _, h, _ => by simp at h
  | [], l :: ls, _, u :: us, _, _, e => by simp at e
  | k :: ks, _, [], _, h, _, _ => by simp at h
  | k :: ks, [], v :: vs, us, _, _, e => by simp at e
  | k :: ks, l :: ls, v :: vs, [], _, h, _ => by simp at h
  | k :: ks, l :: ls, v :: vs, u :: us, h1, h2, e => by
    rw [List.zip_cons_cons, List.zip_cons_cons] at e
    injection e with e1 e2
    injection e1 with e3 e4
    obtain ⟨a, b⟩ := zip_inj (by simpa using h1) (by simpa using h2) e2
    exact ⟨by rw [e3, a], by rw [e4, b]⟩
theorem tup_not_lst {pins : List (Addr × Obj)} {σ : L2.St} {H : Hp} {s : Shared} {a : Addr} {xs ys : List V} (I : Inv X pins σ H s) (h1 : SqT X.K H a xs) (h2 : H a = some (.lst ys)) : False := by
  obtain ⟨_, _, ⟨o, e, c, _⟩, _⟩ := I.tuple h1
  obtain ⟨_, _, p, _⟩ := I.list (SqL.of h2)
  obtain ⟨o2, n, e2, c2, _⟩ := p
  rw [e] at e2
  cases e2
  have z := c.symm.trans c2
  injection z with z
  exact absurd z (by decide)
theorem tup_not_ins {pins : List (Addr × Obj)} {σ : L2.St} {H : Hp} {s : Shared} {a C dx : Addr} {xs : List V} {fs : List (Str × V)} (I : Inv X pins σ H s) (h1 : SqT X.K H a xs) (h2 : H a = some (.ins C dx fs)) : False := by
  obtain ⟨_, _, ⟨o, e, c, _⟩, _⟩ := I.tuple h1
  obtain ⟨m, J, _⟩ := ins_get I.hok h2
  have z := J.obj
  rw [e] at z
  cases z
  cases c
mutual
theorem Rp.det {pins : List (Addr × Obj)} {σ : L2.St} {H : Hp} {s : Shared} (I : Inv X pins σ H s) (g : GoodH S O H) : ∀ (d : Da) (v : V) (e : Da), Rp X.K c (S.map (·.1)) (hid H O) v d → Rp X.K c (S.map (·.1)) (hid H O) v e → d = e
  | .non, _, e, h1, h2 => by cases h1; cases h2; rfl
  | .bl _, _, e, h1, h2 => by cases h1; cases h2; rfl
  | .int _, _, e, h1, h2 => by cases h1; cases h2; rfl
  | .str _, _, e, h1, h2 => by cases h1; cases h2; rfl
  | .ty _, _, e, h1, h2 => by cases h1; cases h2; rfl
  | .st, v, e, h1, h2 => by
    obtain ⟨a, ha, rfl⟩ := rpSt h1
    obtain ⟨L, hs⟩ : ∃ L, S = some (a, L) := by
      cases S with
      | none => cases ha
      | some z => cases ha; exact ⟨z.2, rfl⟩
    obtain ⟨dr, hO⟩ := g.2 _ _ hs
    cases h2 with
    | st _ => rfl
    | tup hq _ =>
      obtain ⟨_, _, _, e1, _⟩ := dr.ex
      exact (tup_not_lst I (Same.sqT hid_le hq) e1).elim
    | lst hq _ => rw [hid_in hO] at hq; cases hq
    | ins _ hq _ _ => rw [hid_in hO] at hq; cases hq
  | .tup ds, v, e, h1, h2 => by
    obtain ⟨a, xs, rfl, e1, r1⟩ := rpT h1
    cases h2 with
    | st hs =>
      obtain ⟨L, hs⟩ : ∃ L, S = some (a, L) := by
        cases S with
        | none => cases hs
        | some z => cases hs; exact ⟨z.2, rfl⟩
      obtain ⟨_, _, _, e2, _⟩ := (g.2 _ _ hs).1.ex
      exact (tup_not_lst I (Same.sqT hid_le e1) e2).elim
    | tup hq hr =>
      obtain rfl := I.tuple_inj (Same.sqT hid_le e1) (Same.sqT hid_le hq)
      rw [RpA.det I g ds _ _ r1 hr]
    | lst hq _ => exact (tup_not_lst I (Same.sqT hid_le e1) (hid_le _ _ hq)).elim
    | ins _ hq _ _ => exact (tup_not_ins I (Same.sqT hid_le e1) (hid_le _ _ hq)).elim
  | .lst ds, v, e, h1, h2 => by
    obtain ⟨a, xs, rfl, e1, r1⟩ := rpL h1
    cases h2 with
    | st hs =>
      obtain ⟨L, hs⟩ : ∃ L, S = some (a, L) := by
        cases S with
        | none => cases hs
        | some z => cases hs; exact ⟨z.2, rfl⟩
      rw [hid_in (g.2 _ _ hs).2] at e1; cases e1
    | tup hq hr => exact (tup_not_lst I (Same.sqT hid_le hq) (hid_le _ _ e1)).elim
    | lst hq hr =>
      rw [e1] at hq
      cases hq
      rw [RpA.det I g ds _ _ r1 hr]
    | ins _ hq _ _ => rw [e1] at hq; cases hq
  | .ins x ks ds, v, e, h1, h2 => by
    obtain ⟨a, dx, xs, rfl, ok, e1, hl, r1⟩ := rpO h1
    cases h2 with
    | st hs =>
      obtain ⟨L, hs⟩ : ∃ L, S = some (a, L) := by
        cases S with
        | none => cases hs
        | some z => cases hs; exact ⟨z.2, rfl⟩
      rw [hid_in (g.2 _ _ hs).2] at e1; cases e1
    | tup hq hr => exact (tup_not_ins I (Same.sqT hid_le hq) (hid_le _ _ e1)).elim
    | lst hq _ => rw [e1] at hq; cases hq
    | ins ok2 hq hl2 hr =>
      rw [e1] at hq
      injection hq with hq
      injection hq with c1 _ z
      obtain rfl := ok.inj _ ok2.al c1
      have l1 := rpsLen r1
      have l2 := rpsLen hr
      obtain ⟨rfl, rfl⟩ := zip_inj (by omega) (by omega) z
      rw [RpA.det I g ds _ _ r1 hr]
theorem RpA.det {pins : List (Addr × Obj)} {σ : L2.St} {H : Hp} {s : Shared} (I : Inv X pins σ H s) (g : GoodH S O H) : ∀ (ds : List Da) (vs : List V) (es : List Da), RpA X.K c (S.map (·.1)) (hid H O) vs ds → RpA X.K c (S.map (·.1)) (hid H O) vs es → ds = es
  | [], _, es, h1, h2 => by cases h1; cases h2; rfl
  | d :: ds, _, es, h1, h2 => by
    obtain ⟨v, ws, rfl, a, b⟩ := rpsC h1
    obtain ⟨e, es', rfl, a2, b2⟩ := rpsC' h2
    rw [Rp.det I g d v e a a2, RpA.det I g ds ws es' b b2]
end
theorem eq0_refl : ∀ d : Da, flD d = true → eq0 d d = true
  | .non, _ => rfl
  | .bl b, _ => by simp [eq0]
  | .int b, _ => by simp [eq0]
  | .str b, _ => by simp [eq0]
  | .st, h => by cases h
  | .ty _, h => by cases h
  | .tup _, h => by cases h
  | .lst _, h => by cases h
  | .ins _ _ _, h => by cases h
theorem eqD_flat {d e : Da} (h1 : flD d = true) (h2 : flD e = true) : eqD d e = eq0 d e := by
  cases d <;> first | (cases h1; done) | skip
  all_goals cases e <;> first | (cases h2; done) | (simp only [eqD])
theorem eqDs_refl : ∀ {l : List Da}, (∀ d ∈ l, eqD d d = true) → eqDs l l = true
  | [], _ => rfl
  | d :: l, h => by unfold eqDs; rw [h d (List.mem_cons_self ..), eqDs_refl fun x hx => h x (List.mem_cons_of_mem _ hx)]; rfl
theorem CqX.refl : ∀ {n : Nat} {d : Da}, CqX tab n d d → eqD d d = true
  | 0, d, h => by rw [eqD_flat h.1 h.2]; exact eq0_refl d h.1
  | n + 1, d, h => by
    rcases h with h | ⟨a, b, rfl, e, h⟩ | ⟨a, b, rfl, e, h⟩ | ⟨k, ks, a, rfl, _, h, _⟩
    · rw [eqD_flat h.1 h.2]; exact eq0_refl d h.1
    · cases e
      simp only [eqD]
      exact eqDs_refl fun x hx => by
        obtain ⟨i, hi⟩ := List.mem_iff_getElem?.mp hx
        exact CqX.refl (h i x x hi hi)
    · cases e
      simp only [eqD]
      exact eqDs_refl fun x hx => by
        obtain ⟨i, hi⟩ := List.mem_iff_getElem?.mp hx
        exact CqX.refl (h i x x hi hi)
    · exact h
theorem eqDs_allB {xs ys : List Da} {us vs : List Value} (h1 : us.length = xs.length) (h2 : vs.length = ys.length) : eqDs xs ys = ((List.range (min us.toArray.size vs.toArray.size)).all (fun i => eqD (xs.getD i .non) (ys.getD i .non)) && (us.toArray.size == vs.toArray.size)) := by
  rw [eqDs_all, List.size_toArray, List.size_toArray, h1, h2]
/-- from rich comparison to == inside a built-in -/
theorem RcGX.eqG {n : Nat} {d e : Da} (h : RcGX X c n S O d e) (hr : ∀ pins σ H s (I : Inv X pins σ H s) (g : GoodH S O H) v, Rp X.K c (S.map (·.1)) (hid H O) v d → Rp X.K c (S.map (·.1)) (hid H O) v e → eqD d e = true) (h1 : flD d = false) (h2 : flD e = false) (t1 : ∀ z, d ≠ .ty z) (t2 : ∀ z, e ≠ .ty z) : EqGX X c n S O d e := by
  intro A pins s σ H x y u v sb I g rx ry hx hy
  obtain ⟨a, rfl⟩ : ∃ a, x = .ref a := by
    cases hx <;> first | (cases h1; done) | exact ⟨_, rfl⟩ | exact absurd rfl (t1 _)
  obtain ⟨b, rfl⟩ : ∃ b, y = .ref b := by
    cases hy <;> first | (cases h2; done) | exact ⟨_, rfl⟩ | exact absurd rfl (t2 _)
  cases rx
  cases ry
  by_cases hab : a = b
  · subst hab
    rw [hr pins σ H s I g _ hx hy]
    exact SeqAt.EqAt.same (A := A) (s := s) (.ref a) X.prog X.w X.xe _ ⟨rfl, H, I, Ex.of (Same.refl H) fun st L e => (g.2 st L e).1⟩
  · refine GQ.eqBool_refG hab (wpAny_mono (h A pins s σ H (.ref a) (.ref b) _ _ sb I g rfl rfl hx hy) (fun r s' q => ?_) fun _ _ x => x)
    obtain ⟨hr', q⟩ := q
    exact ⟨_, hr', rfl, q⟩
theorem getA {l : List Value} {i : Nat} (h : i < l.toArray.size) : l[i]? = some l.toArray[i] := by
  have h' : i < l.length := by simpa using h
  rw [List.getElem?_eq_getElem h'] <;> simp
theorem turnX {n : Nat} {ds es : List Da} (ih : ∀ (i : Nat) (d e : Da), ds[i]? = some d → es[i]? = some e → EqGX X c n S O d e) {A : Around} (sb : Sub X (n + 1) A) {pins : List (Addr × Obj)} {σ : L2.St} {H : Hp} (g : GoodH S O H) {xs ys : List V} {us vs : List Value} (r1 : Vals xs us) (r2 : Vals ys vs)
    (d1 : RpA X.K c (S.map (·.1)) (hid H O) xs ds) (d2 : RpA X.K c (S.map (·.1)) (hid H O) ys es) (i : Nat) (h1 : i < us.toArray.size) (h2 : i < vs.toArray.size) (s' : Shared) (l : ∃ H', Inv X pins σ H' s' ∧ Ex S H H') :
    wpAny (model X.prog X.w) A.in1 (eqBool us.toArray[i] vs.toArray[i]) (fun r s2 => r = eqD (ds.getD i .non) (es.getD i .non) ∧ ∃ H', Inv X pins σ H' s2 ∧ Ex S H H') X.xe s' := by
  obtain ⟨H1, I1, e1⟩ := l
  have l1 := rpsLen d1
  have l2 := rpsLen d2
  have k1 : i < xs.length := by rw [r1.length]; simpa using h1
  have k2 : i < ys.length := by rw [r2.length]; simpa using h2
  obtain ⟨u, hu, ru⟩ := r1.get (List.getElem?_eq_getElem k1)
  obtain ⟨v, hv, rv⟩ := r2.get (List.getElem?_eq_getElem k2)
  rw [getA h1] at hu
  rw [getA h2] at hv
  rw [Option.some.inj hu, Option.some.inj hv]
  have s1 := e1.hid (ps := O) fun st L e => (g.2 st L e).2
  obtain ⟨d, ed, rd⟩ := rpsGetV d1 (List.getElem?_eq_getElem k1)
  obtain ⟨e, ee, re⟩ := rpsGetV d2 (List.getElem?_eq_getElem k2)
  rw [show ds.getD i .non = d by rw [List.getD_eq_getElem?_getD, ed]; rfl, show es.getD i .non = e by rw [List.getD_eq_getElem?_getD, ee]; rfl]
  refine wpAny_mono (ih i d e ed ee A.in1 pins s' σ H1 _ _ u v sb.in1 I1 (g.ex e1) ru rv (rpS s1 rd) (rpS s1 re)) (fun r s2 q => ?_) fun _ _ x => x
  obtain ⟨hr, H2, I2, e2⟩ := q
  exact ⟨hr, H2, I2, Ex.trans e1 e2⟩
theorem rcX_tup {n : Nat} {ds es : List Da} (ih : ∀ (i : Nat) (d e : Da), ds[i]? = some d → es[i]? = some e → EqGX X c n S O d e) : RcGX X c (n + 1) S O (.tup ds) (.tup es) := by
  intro A pins s σ H x y u v sb I g rx ry hx hy
  obtain ⟨a, xs, rfl, ea, d1⟩ := rpT hx
  obtain ⟨b, ys, rfl, eb, d2⟩ := rpT hy
  cases rx
  cases ry
  obtain ⟨us, r1, p1, z1⟩ := I.tuple (Same.sqT hid_le ea)
  obtain ⟨vs, r2, p2, z2⟩ := I.tuple (Same.sqT hid_le eb)
  have l1 := r1.length
  have l2 := r2.length
  have m1 := rpsLen d1
  have m2 := rpsLen d2
  refine ZG.rc_tupB sb.room.units0 (fun i => eqD (ds.getD i .non) (es.getD i .non)) (fun _ s' => ∃ H', Inv X pins σ H' s' ∧ Ex S H H') p1 p2 (fun i h1 h2 s' l => turnX ih sb g r1 r2 d1 d2 i h1 h2 s' l) (fun i s' l => ⟨?_, l⟩) ⟨H, I, Ex.of (Same.refl H) fun st L e => (g.2 st L e).1⟩
  rw [← eqDs_allB (by omega) (by omega)]
  simp only [eqD]
theorem rcX_lst {n : Nat} {ds es : List Da} (ih : ∀ (i : Nat) (d e : Da), ds[i]? = some d → es[i]? = some e → EqGX X c n S O d e) : RcGX X c (n + 1) S O (.lst ds) (.lst es) := by
  intro A pins s σ H x y u v sb I g rx ry hx hy
  obtain ⟨a, xs, rfl, ea, d1⟩ := rpL hx
  obtain ⟨b, ys, rfl, eb, d2⟩ := rpL hy
  cases rx
  cases ry
  have ea := hid_le _ _ ea
  have eb := hid_le _ _ eb
  have m1 := rpsLen d1
  have m2 := rpsLen d2
  have rw0 : eqD (.lst ds) (.lst es) = eqDs ds es := by simp only [eqD]
  by_cases hl : ds.length = es.length
  · refine ZG.rc_listB (N := ds.length) sb.room.units0 (fun i => eqD (ds.getD i .non) (es.getD i .non)) (fun _ s' => ∃ H', Inv X pins σ H' s' ∧ Ex S H H') (fun i s' l => ?_) (fun i s' l => ⟨?_, l⟩) ⟨H, I, Ex.of (Same.refl H) fun st L e => (g.2 st L e).1⟩
    · obtain ⟨H1, I1, e1⟩ := id l
      have no : ∀ {p : Addr} {zs : List V}, H p = some (.lst zs) → hid H O p = some (.lst zs) → ∀ st L, S = some (st, L) → p ≠ st := fun {p zs} e1 e2 st L e z => by subst z; rw [hid_in (g.2 _ _ e).2] at e2; cases e2
      obtain ⟨_, _, ra, ea', _⟩ := rpL hx
      cases ra
      obtain ⟨_, _, rb, eb', _⟩ := rpL hy
      cases rb
      have ea2 : H a = some (.lst xs) := ea
      have h1 := e1.1 a _ (fun st L e z => by subst z; rw [hid_in (g.2 _ _ e).2] at ea'; cases ea') ea2
      have h2 := e1.1 b _ (fun st L e z => by subst z; rw [hid_in (g.2 _ _ e).2] at eb'; cases eb') eb
      obtain ⟨z, us, k, r1, e⟩ := I1.hok a _ h1
      obtain ⟨z2, vs, k2, r2, e2⟩ := I1.hok b _ h2
      have n1 := r1.length
      have n2 := r2.length
      refine ⟨us.toArray, vs.toArray, k, k2, e, e2, by rw [List.size_toArray]; omega, by rw [List.size_toArray]; omega, fun h1 h2 => ?_⟩
      exact turnX ih sb g r1 r2 d1 d2 i h1 h2 s' l
    · rw [rw0, eqDs_all, hl, Nat.min_self, beq_self_eq_true, Bool.and_true]
  · obtain ⟨us, r1, p1, _⟩ := I.list (SqL.of ea)
    obtain ⟨vs, r2, p2, _⟩ := I.list (SqL.of eb)
    have n1 := r1.length
    have n2 := r2.length
    have z : eqD (.lst ds) (.lst es) = false := by rw [rw0, eqDs_all]; simp [hl]
    rw [z]
    exact SeqAt.RcAt.lists_lengths p1.isList p2.isList (by simp; omega) sb.room.units0 X.prog X.w X.xe _ ⟨rfl, H, I, Ex.of (Same.refl H) fun st L e => (g.2 st L e).1⟩
theorem rty_of {H : Hp} {k : Str} {y : V} {e : Da} (hy : Rp X.K c (S.map (·.1)) (hid H O) y e) (h : (∃ k2 ks2 b, e = .ins k2 ks2 b ∧ (k2 = k ∨ PySem.W.subIn X.K (.ref (c.cls k2)) (.ref (c.cls k)) = some false)) ∨ okTy e = true) : RTy X.K c k H y := by
  rcases h with ⟨k2, ks2, b, rfl, h⟩ | h
  · obtain ⟨p, dx, xs, rfl, ok, e1, _, _⟩ := rpO hy
    exact .inl ⟨p, k2, dx, _, rfl, hid_le _ _ e1, h⟩
  · cases e <;> first | (cases h; done) | skip
    · cases hy; exact .inr (.inl rfl)
    · cases hy; exact .inr (.inr (.inr (.inl ⟨_, rfl⟩)))
    · cases hy; exact .inr (.inr (.inl ⟨_, rfl⟩))
    · cases hy; exact .inr (.inr (.inr (.inr (.inl ⟨_, rfl⟩))))
    · obtain ⟨a, xs, rfl, ea, _⟩ := rpT hy; exact .inr (.inr (.inr (.inr (.inr (.inl ⟨a, xs, rfl, Same.sqT hid_le ea⟩)))))
    · obtain ⟨a, xs, rfl, ea, _⟩ := rpL hy; exact .inr (.inr (.inr (.inr (.inr (.inr ⟨a, xs, rfl, SqL.of (hid_le _ _ ea)⟩)))))
theorem rcX_ins {k : Nat} (T : ETabOk X c k tab) {x : Str} {ks : List Str} {a : List Da} {e : Da} {ps : PSp} (hm : (x, ps) ∈ tab) (hp : ps [.ins x ks a, e] (fun r => r = .bl (eqD (.ins x ks a) e)) (fun _ => False))
    (ho : (∃ k2 ks2 b, e = .ins k2 ks2 b ∧ (k2 = x ∨ ((∃ ps2, (k2, ps2) ∈ tab) ∧ SUB k2 x = false))) ∨ okTy e = true) : RcGX X c k S O (.ins x ks a) e := by
  intro A pins s σ H u v y z sb I g rx ry hx hy
  obtain ⟨IF, ⟨gs, ok⟩, f, fd, pn, k', sp, hk, hM, hb, F, hs⟩ := T _ hm
  obtain ⟨p, dx, xs, rfl, ok', e1, hl, ra⟩ := rpO hx
  have t : RTy X.K c x H v := rty_of hy (ho.imp (fun ⟨k2, ks2, b, e, h⟩ => ⟨k2, ks2, b, e, h.imp id fun ⟨⟨ps2, m2⟩, h⟩ => by
    obtain ⟨_, ⟨g2, ok2⟩, _⟩ := T _ m2
    rw [ok2.sb x IF.has, h]⟩) id)
  cases rx
  obtain ⟨tb, LT, hn⟩ := looks_rty I IF ry t
  obtain ⟨mA, J, _⟩ := ins_get I.hok (hid_le _ _ e1)
  obtain ⟨od, J, _⟩ := J.look
  obtain ⟨m, hF⟩ := I.fr
  refine PySem.W.cmp_K (op := .Eq) (tb := tb) sb.room.units0 hF I.ok.mod.kin J LT hn hM.at_ hM.fn ?_
  have r2 : Vals [V.ref p, v] [Value.ref p, z] := .cons rfl (.cons ry .nil)
  have q : sp [.ref p, v] H (fun r H' => r = .bl (eqD (.ins x ks a) e) ∧ Ex S H H') E0 := hs S O H _ _ _ _ _ _ g.1 g.2 (.cons hx (.cons hy .nil)) hp (fun r d H' ex rr q => ⟨by subst q; exact rpB rr, ex⟩) (fun _ _ _ f => f.elim)
  refine thn (run_at ⟨sb.room.mono hk, sb.fr⟩ F hb I r2 q) fun w s' hw => ?_
  obtain ⟨zv, H', I', rz, ez, ex⟩ := hw
  subst ez
  cases rz
  exact ⟨rfl, H', I', ex⟩
theorem RcGX.mono {n m : Nat} {d e : Da} (h : RcGX X c n S O d e) (l : n ≤ m) : RcGX X c m S O d e := fun A pins s σ H x y u v sb => h A pins s σ H x y u v (sb.mono l)
/-- == of what may be compared -/
theorem eqX_main {k : Nat} (T : ETabOk X c k tab) : ∀ {n : Nat} {d e : Da}, CqX tab n d e → EqGX X c (k + n) S O d e ∧ (¬ (flD d = true ∧ flD e = true) → RcGX X c (k + n) S O d e)
  | 0, d, e, h => ⟨flat_EqGX _ h.1 h.2, fun z => absurd h z⟩
  | n + 1, d, e, h => by
    have same : ∀ pins σ H s (I : Inv X pins σ H s) (g : GoodH S O H) v, Rp X.K c (S.map (·.1)) (hid H O) v d → Rp X.K c (S.map (·.1)) (hid H O) v e → eqD d e = true := fun pins σ H s I g v h1 h2 => by
      have z := Rp.det I g d v e h1 h2
      subst z
      exact CqX.refl h
    rcases h with h | ⟨a, b, rfl, rfl, h⟩ | ⟨a, b, rfl, rfl, h⟩ | ⟨x, ks, a, rfl, ⟨ps, hm, hp⟩, _, ho⟩
    · exact ⟨flat_EqGX _ h.1 h.2, fun z => absurd h z⟩
    · have r := rcX_tup (S := S) (O := O) (n := k + n) fun i u v hu hv => (eqX_main T (h i u v hu hv)).1
      exact ⟨r.eqG same rfl rfl (fun z q => by cases q) (fun z q => by cases q), fun _ => r⟩
    · have r := rcX_lst (S := S) (O := O) (n := k + n) fun i u v hu hv => (eqX_main T (h i u v hu hv)).1
      exact ⟨r.eqG same rfl rfl (fun z q => by cases q) (fun z q => by cases q), fun _ => r⟩
    · have r := (rcX_ins (S := S) (O := O) T hm hp ho).mono (show k ≤ k + (n + 1) by omega)
      refine ⟨?_, fun _ => r⟩
      by_cases f : flD e = false
      · exact r.eqG same rfl f (fun z q => by cases q) (fun z q => by
          subst q
          rcases ho with ⟨_, _, _, q, _⟩ | q
          · cases q
          · cases q)
      · intro A pins s σ H u v y z sb I g rx ry hx hy
        obtain ⟨p, dx, xs, rfl, ok', e1, hl, ra⟩ := rpO hx
        cases rx
        have ne : ∀ b, z ≠ .ref b := by
          cases e <;> first | (exact absurd rfl f) | skip
          all_goals (cases hy; first | (obtain ⟨tk, rfl⟩ := ry; exact fun _ q => by cases q) | (cases ry; exact fun _ q => by cases q))
        cases ry' : z <;> first | exact absurd ry' (ne _) | skip
        all_goals
          subst ry'
          refine (?_ : wpAny (model X.prog X.w) A (eqBool (.ref p) _) _ X.xe s)
          unfold eqBool
          refine wpAny_holding ?_
          refine wpAny_ite_split (fun hab => absurd (eq_of_beq hab) (fun q => by cases q)) (fun _ => ?_)
          refine wpAny_bind (wpAny_mono (r A pins s σ H (.ref p) _ _ _ sb I g (show RelV (.ref p) (.ref p) from rfl) ry hx hy) (fun v s2 hv => ?_) fun _ _ x => x)
          obtain ⟨rfl, q⟩ := hv
          exact wpAny_truthy_bool ⟨rfl, q⟩
/-- == with own instances within -/
def rEqX (K : PySem.W.Frag) (c : CEnv) (tab : ETab) : R2 := fun x y H Q => ∃ (S : Option (Addr × Addr)) (O : List Addr) (n : Nat) (d e : Da), n ≤ 4 ∧ GoodH S O H ∧ Rp K c (S.map (·.1)) (hid H O) x d ∧ Rp K c (S.map (·.1)) (hid H O) y e ∧ CqX tab n d e ∧ ¬ (flD d = true ∧ flD e = true) ∧ ∀ H', Ex S H H' → Q (.bl (eqD d e)) H'
def uEqX (K : PySem.W.Frag) (c : CEnv) (tab : ETab) : R2 := fun x y H Q => uEq K x y H Q ∨ rEqX K c tab x y H Q
theorem op_rEqX {k : Nat} (T : ETabOk X c k tab) (hr : Room (k + 4) X.A) : OpR X (compareOp .Eq) (rEqX X.K c tab) := by
  intro pins s σ H x y v u Q I rx ry ⟨S, O, n, d, e, hn, g, hx, hy, hc, nf, q⟩
  show wpAny (model X.prog X.w) X.A (richCompare .Eq v u) (EP X pins σ Q) X.xe s
  refine wpAny_mono ((eqX_main (S := S) (O := O) T hc).2 nf X.A pins s σ H x y v u ⟨hr.mono (by omega), rfl⟩ I g rx ry hx hy) (fun r s' z => ?_) fun _ _ x => x
  obtain ⟨rfl, H', I', ex⟩ := z
  exact ⟨.bl _, H', I', rfl, q H' ex⟩
theorem op_uEqX {k : Nat} (T : ETabOk X c k tab) (hr : Room (k + 4) X.A) : OpR X (compareOp .Eq) (uEqX X.K c tab) := (op_uEq hr.units).or (op_rEqX T hr)
end
def pEqX (tab : ETab) : PR2 := fun x y Q => ∃ n, n ≤ 4 ∧ (Cq n x y ∨ (CqX tab n x y ∧ ¬ (flD x = true ∧ flD y = true))) ∧ Q (.bl (eqD x y))
section
variable {N : Cn}
theorem sim_eqX {tab : ETab} : SimR N (uEqX N.K N.c tab) (pEqX tab) := by
  intro w H0 B ow H σ ρ x y dx dy Q Q' r hx hy ⟨n, hn, h, q⟩ k
  rcases h with h | ⟨h, nf⟩
  · exact .inl (sim_eq w H0 B ow H σ ρ x y dx dy Q Q' r hx hy ⟨n, by omega, h, q⟩ k)
  · exact .inr ⟨w.S, hl w ow, n, dx, dy, hn, ⟨r.occ, fun st L e => ⟨(r.dr st L e).1, r.stO st L e⟩⟩, hx, hy, h, nf, fun H' ex => k _ _ H' (r.ex ex) ex (.bl _) q⟩
end

/-! ### fresh lists of other makings -/
def pNewL (p : PAr) : PAr := fun ρ Q => p ρ fun ds => ds.length ≤ 100000 ∧ Q ds
def listF1 (ds : List Da) (Q : List Da → Prop) : Prop := match ds with
  | [.lst l] => Q l
  | [.tup l] => Q l
  | _ => False
def pListF (p : PAr) : PAr := fun ρ Q => p ρ fun ds => listF1 ds Q
def addF1 (x y : Da) (Q : List Da → Prop) : Prop := match x, y with
  | .lst l, .lst m => l.length + m.length ≤ 100000 ∧ Q (l ++ m)
  | _, _ => False
def pAddF (a b : PEx) : PAr := fun ρ Q => a ρ fun x => b ρ fun y => addF1 x y Q
def slF1 (d : Da) (lo hi : Option Int) (Q : List Da → Prop) : Prop := match d with
  | .lst xs => Q (cutD xs lo hi)
  | _ => False
def pSlF (a : PEx) (l h : POp) : PAr := fun ρ Q => a ρ fun d => l ρ fun lo => h ρ fun hi => slF1 d lo hi Q
section
variable {N : Cn} {w : Pw} {H0 B H H' : Hp} {ow : Ow} {σ : L2.St} {ρ : PEnv}
theorem fresh_go {Q : VK} {Q' : List Da → Prop} {H1 : Hp} {vs : List V} {l : List Da} {a : Addr} (k : ∀ a vs l H', Rel N.K N.c w H0 B ((ρ.length, a) :: ow) H' σ ρ → Ex w.S H H' → H a = none → H' a = some (.lst vs) → RpA N.K N.c w.st (dh w ((ρ.length, a) :: ow) H') vs l → Q' l → Q (.ref a) H')
    (r1 : Rel N.K N.c w H0 B ow H1 σ ρ) (x1 : Ex w.S H H1) (ha : H1 a = none) (h : RpA N.K N.c w.st (dh w ow H1) vs l) (q : Q' l) : Q (.ref a) (upd H1 a (.lst vs)) :=
  k a vs l _ (r1.hide ha) (Ex.trans x1 (r1.exOf (Same.new ha (Same.refl _)))) (x1.none ha) upd_same (RpA.hide ha h (Same.new ha (Same.refl _))) q
theorem simF_list {t : TA} {p : PAr} (ht : SimA N t p) : SimF N (tCB (uList N.K) t) (pListF p) := by
  intro w H0 B aw ow H σ ρ Q Q' r h k
  refine ht w H0 B aw ow H σ ρ _ _ r h fun vs ds H1 r1 x1 h1 q1 => ?_
  unfold listF1 at q1
  split at q1
  · obtain ⟨v, rfl, a⟩ := rps1 h1
    obtain ⟨p, ys, rfl, e, rr⟩ := rpL a
    exact z_list (.inl (SqL.of (hid_le _ _ e))) fun l hl => fresh_go k r1 x1 hl rr q1
  · obtain ⟨v, rfl, a⟩ := rps1 h1
    obtain ⟨p, ys, rfl, e, rr⟩ := rpT a
    exact z_list (.inr (Same.sqT hid_le e)) fun l hl => fresh_go k r1 x1 hl rr q1
  · exact q1.elim
theorem simF_add {a b : TE} {pa pb : PEx} (ha : SimE N a pa) (hb : SimE N b pb) : SimF N (tOp (uAdd N.K) a b) (pAddF pa pb) := by
  intro w H0 B aw ow H σ ρ Q Q' r h k
  refine ha w H0 B aw ow H σ ρ _ _ r h fun x dx H1 r1 s1 h1 q1 => ?_
  refine hb w H0 B aw ow H1 σ ρ _ _ r1 q1 fun y dy H2 r2 s2 h2 q2 => ?_
  unfold addF1 at q2
  split at q2
  · obtain ⟨a, xs, rfl, e1, ra⟩ := rpL (rpS (s2.dh r1) h1)
    obtain ⟨b, ys, rfl, e2, rb⟩ := rpL h2
    exact .inl ⟨a, b, xs, ys, rfl, rfl, hid_le _ _ e1, hid_le _ _ e2, Nat.le_trans (by rw [rpsLen ra, rpsLen rb]; exact q2.1) (by decide), fun p hp => fresh_go k r2 (Ex.trans s1 s2) hp (rpsApp ra rb) q2.2⟩
  · exact q2.elim
theorem simF_sl {a : TE} {tl th : TO} {p : PEx} {pl ph : POp} (ha : SimE N a p) (hl : SimO N tl pl) (hh : SimO N th ph) : SimF N (tSl (uSl N.K) a tl th) (pSlF p pl ph) := by
  intro w H0 B aw ow H σ ρ Q Q' r z k
  refine ha w H0 B aw ow H σ ρ _ _ r z fun v d H1 r1 s1 h1 q1 => ?_
  refine hl w H0 B aw ow H1 σ ρ _ _ r1 q1 fun lo H2 r2 s2 q2 => ?_
  refine hh w H0 B aw ow H2 σ ρ _ _ r2 q2 fun hi H3 r3 s3 q3 => ?_
  unfold slF1 at q3
  split at q3
  · obtain ⟨p, xs, rfl, e, rr⟩ := rpL (rpS ((Ex.trans s2 s3).dh r1) h1)
    exact z_slL (SqL.of (hid_le _ _ e)) fun l hl => fresh_go k r3 (Ex.trans s1 (Ex.trans s2 s3)) hl (rps_cut rr) q3
  · exact q3.elim
end

/-! ### the draws -/
def ps_law_next : PSp := fun ds Q _ => ∃ m : Int, ds = [.st, .int m] ∧ 0 < m ∧ m < 1000000000000000000 ∧ ∀ r : Int, 0 ≤ r → r < m → Q (.int r)
theorem b_law_next {K : PySem.W.Frag} {c : CEnv} : SpSim K c (sp_law_next K) ps_law_next := by
  rintro S O H vs ds Q E Q' E' oc dr r ⟨m, rfl, h0, h1, q⟩ k _
  obtain ⟨v, u, rfl, a, b⟩ := rps2 r
  cases b
  obtain ⟨st, hs, rfl⟩ := rpSt a
  obtain ⟨L, hs⟩ : ∃ L, S = some (st, L) := by
    cases S with
    | none => cases hs
    | some z => cases hs; exact ⟨z.2, rfl⟩
  refine ⟨st, L, m, rfl, (dr _ _ hs).1, h0, h1, fun r H' h2 h3 d _ ne => k _ _ H' ⟨fun a o n e => ?_, fun st' L' e => ?_⟩ (.int r) (q r h2 h3)⟩
  · rw [ne a (n _ _ hs)]; exact e
  · rw [hs] at e; cases e; exact d
theorem next_c {n : Int} {Q : Da → Prop} {E : Str → Prop} (h0 : 0 < n) (h1 : n < 1000000000000000000) (k : ∀ r : Int, 0 ≤ r → r < n → Q (.int r)) : ps_law_next [.st, .int n] Q E := ⟨n, rfl, h0, h1, k⟩
/-- a law: its state is made first -/
theorem wd_law {K : PySem.W.Frag} {c : CEnv} {T : TS} {P : PSt} {Nn : List Str} {m : Nat} (hS : SimS ⟨K, c, W0, fun _ _ => False⟩ T P) (hn : Nn.length = m + 2) (hp : P { nx := fun _ => False, rt := fun d => d = .bl true } (none :: some (.d .st) :: List.replicate m none)) :
    Wd (tSeq (tAsg (tLst (tCons (tCB (uList K) (tCons (tVar 0) tNil)) (tCons (tC (.int 0)) (tCons (tC (.int 0)) tNil)))) (gName 1)) T) Nn 1 (sp_law K) := by
  rintro vs H Q E ⟨a, ns, rfl, ha, hl, q⟩
  refine ⟨rfl, ?_⟩
  have es : L2.start Nn [V.ref a] = some (V.ref a) :: none :: List.replicate m none := by
    unfold L2.start; rw [hn]; rfl
  rw [es]
  refine z_seq (z_asg (z_lst (z_cons (z_cb (z_cons (z_var rfl (z_nil ?_)))))))
  refine z_list (.inl ha) fun L hL => ?_
  refine z_cons (z_c (z_cons (z_c (z_nil ?_))))
  refine z_newL (by simp) fun st hst => ?_
  have d := Draw.start (ns := ns) hL hst
  show T _ (some (V.ref a) :: some (.ref st) :: List.replicate m none) _
  obtain ⟨oS, hS0⟩ := d.occ
  generalize upd (upd H L (HO.lst (List.map V.int ns))) st (HO.lst [V.ref L, V.int 0, V.int 0]) = G at *
  refine hS ⟨some (st, L), [st], [st], none⟩ G (hid G [st]) (fun _ _ _ _ _ _ f => f.elim) [] _ _ (none :: some (.d .st) :: List.replicate m none) _ { nx := fun _ => False, rt := fun d => d = .bl true } ⟨fun _ _ _ _ _ f => f.elim, fun _ _ _ _ _ f => f.elim, fun _ _ _ _ _ f => f.elim, fun ow H1 σ ρ v d r1 h1 q1 => ?_⟩ ?_ hp
  · have q1 : d = .bl true := q1
    subst q1
    rw [rpB h1]
    exact q H1
  · refine ⟨?_, fun st' L' e => ?_, fun p h => by (cases h), fun p h => by (cases h), fun a o _ e => e, fun p h => by (cases h), ?_, fun i x e => ?_, Same.refl _⟩
    · exact Occ.cons hS0 Occ.nil
    · cases e; exact ⟨d, List.mem_cons_self .., List.mem_cons_self ..⟩
    · simp
    · match i with
      | 0 => cases e
      | 1 => cases e; exact ⟨.ref st, rfl, .st rfl⟩
      | i + 2 =>
        rw [List.getElem?_cons_succ, List.getElem?_cons_succ, List.getElem?_replicate] at e
        split at e <;> cases e

/-! ### the steps of a reading without a heap -/
section
variable {ρ : PEnv} {Q : Da → Prop} {QA : List Da → Prop} {QB : Bool → Prop} {d x y : Da} {i j : Int} {n : Nat} {a b e : PEx} {t u : PAr} {c c2 : PTe} {D : PD} {p q : PSt} {l l2 ds : List Da} {s s2 f : Str} {bb b2 : Bool} {ps : PSp} {g : PTg} {Wp : WP} {r r2 : PR2} {k : Nat}
theorem p_var (h : ρ[n]? = some (some (.d d))) (k : Q d) : pVar n ρ Q := ⟨d, h, k⟩
theorem p_c (k : Q d) : pC d ρ Q := k
theorem p_nil (k : QA []) : pNil ρ QA := k
theorem p_cons (k : a ρ fun x => t ρ fun xs => QA (x :: xs)) : pCons a t ρ QA := k
theorem p_op (k : a ρ fun x => b ρ fun y => r x y Q) : pOp r a b ρ Q := k
theorem p_un {r1 : PR1} (k : a ρ fun x => r1 x Q) : pUn r1 a ρ Q := k
theorem p_cb {rl : PRl} (k : t ρ fun x => rl x Q) : pCB rl t ρ Q := k
theorem p_lst (k : t ρ fun ds => ds.length ≤ 100000 ∧ Q (.lst ds)) : pLst t ρ Q := k
theorem p_tup (k : t ρ fun ds => ds.length ≤ 100000 ∧ Q (.tup ds)) : pTup t ρ Q := k
theorem p_nl {P : Prop} (h : ds.length ≤ 100000) (k : P) : ds.length ≤ 100000 ∧ P := ⟨h, k⟩
theorem p_test (k : a ρ fun d => ∃ b, d = .bl b ∧ QB b) : pTest a ρ QB := k
theorem p_bl {P : Bool → Prop} (k : P bb) : ∃ b, Da.bl bb = .bl b ∧ P b := ⟨bb, rfl, k⟩
theorem p_tru (k : a ρ fun d => ∃ b, truD d b ∧ QB b) : pTru a ρ QB := k
theorem p_trb {P : Bool → Prop} (k : P bb) : ∃ b, truD (.bl bb) b ∧ P b := ⟨bb, rfl, k⟩
theorem p_tri {P : Bool → Prop} (k : P (i != 0)) : ∃ b, truD (.int i) b ∧ P b := ⟨_, rfl, k⟩
theorem p_trl {P : Bool → Prop} (k : P (!l.isEmpty)) : ∃ b, truD (.lst l) b ∧ P b := ⟨_, rfl, k⟩
theorem p_trt {P : Bool → Prop} (k : P (!l.isEmpty)) : ∃ b, truD (.tup l) b ∧ P b := ⟨_, rfl, k⟩
theorem p_trn {P : Bool → Prop} (k : P false) : ∃ b, truD .non b ∧ P b := ⟨_, rfl, k⟩
theorem p_and (k : c ρ fun b => if b = true then c2 ρ QB else QB false) : pAnd c c2 ρ QB := k
theorem p_or (k : c ρ fun b => if b = true then QB true else c2 ρ QB) : pOr c c2 ρ QB := k
theorem p_not (k : c ρ fun b => QB (!b)) : pNot c ρ QB := k
theorem p_andV (k : a ρ fun x => ∃ k, x = .bl k ∧ if k = true then b ρ Q else Q (.bl false)) : pAndV a b ρ Q := k
theorem p_orV (k : a ρ fun x => ∃ k, x = .bl k ∧ if k = true then Q (.bl true) else b ρ Q) : pOrV a b ρ Q := k
theorem p_notV (k : a ρ fun x => ∃ k, x = .bl k ∧ Q (.bl (!k))) : pNotV a ρ Q := k
theorem p_if (k : c ρ fun k => if k = true then a ρ Q else b ρ Q) : pIf c a b ρ Q := k
theorem p_chain (k : a ρ fun x => b ρ fun y => r x y fun z => ∃ k, z = .bl k ∧ if k = true then e ρ fun u => r2 y u Q else Q (.bl false)) : pChain r r2 a b e ρ Q := k
theorem p_yes (k : QB true) : pYes ρ QB := k
theorem p_fldt (k : a ρ fun d => ∃ x ks l y, d = .ins x ks l ∧ (ks.zip l).lookup f = some y ∧ Q y) : pFld a f ρ Q := k
theorem p_fld {P : Da → Prop} {X : Str} {KS : List Str} {L : List Da} (h : (KS.zip L).lookup f = some d) (k : P d) : ∃ x ks l y, Da.ins X KS L = .ins x ks l ∧ (ks.zip l).lookup f = some y ∧ P y := ⟨X, KS, L, d, rfl, h, k⟩
-- operators
theorem p_add (k : Q (.int (i + j))) : pAdd (.int i) (.int j) Q := k
theorem p_addS (h : s.length + s2.length ≤ 100000) (k : Q (.str (s ++ s2))) : pAdd (.str s) (.str s2) Q := ⟨h, k⟩
theorem p_addL (h : l.length + l2.length ≤ 100000) (k : Q (.lst (l ++ l2))) : pAdd (.lst l) (.lst l2) Q := ⟨h, k⟩
theorem p_addT (h : l.length + l2.length ≤ 100000) (k : Q (.tup (l ++ l2))) : pAdd (.tup l) (.tup l2) Q := ⟨h, k⟩
theorem p_sub (k : Q (.int (i - j))) : pSub (.int i) (.int j) Q := k
theorem p_mul (h : MulOk i j) (k : Q (.int (i * j))) : pMul (.int i) (.int j) Q := ⟨h, k⟩
theorem p_div (h : CDivW i j) (k : Q (.int (i / j))) : pDiv (.int i) (.int j) Q := ⟨h, k⟩
theorem p_mod (h : 0 < j) (k : Q (.int (i % j))) : pMod (.int i) (.int j) Q := ⟨h, k⟩
theorem p_pow (h : CPow i j) (k : Q (.int (i ^ j.toNat))) : pPow (.int i) (.int j) Q := ⟨h, k⟩
theorem p_neg (k : Q (.int (-i))) : pNeg (.int i) Q := k
theorem p_lt (k : Q (.bl (decide (i < j)))) : pLt (.int i) (.int j) Q := k
theorem p_ltS (k : Q (.bl (decide (s.cps.toList < s2.cps.toList)))) : pLt (.str s) (.str s2) Q := k
theorem p_ltIS (k : Q (.bl (if i = j then decide (s.cps.toList < s2.cps.toList) else decide (i < j)))) : pLt (.tup [.int i, .str s]) (.tup [.int j, .str s2]) Q := k
theorem p_le (k : Q (.bl (decide (i ≤ j)))) : pLe (.int i) (.int j) Q := k
theorem p_leS (k : Q (.bl (!decide (s2.cps.toList < s.cps.toList)))) : pLe (.str s) (.str s2) Q := k
theorem p_gt (k : Q (.bl (decide (j < i)))) : pGt (.int i) (.int j) Q := k
theorem p_gtS (k : Q (.bl (decide (s2.cps.toList < s.cps.toList)))) : pGt (.str s) (.str s2) Q := k
theorem p_ge (k : Q (.bl (decide (j ≤ i)))) : pGe (.int i) (.int j) Q := k
theorem p_geS (k : Q (.bl (!decide (s.cps.toList < s2.cps.toList)))) : pGe (.str s) (.str s2) Q := k
theorem p_eqf (h1 : flD x = true) (h2 : flD y = true) (k : Q (.bl (eqD x y))) : pEq x y Q := ⟨0, by decide, Cq.flat h1 h2, k⟩
theorem p_nef (h1 : flD x = true) (h2 : flD y = true) (k : Q (.bl (!eqD x y))) : pNe x y Q := ⟨0, by decide, Cq.flat h1 h2, k⟩
theorem eqD_II : eqD (.int i) (.int j) = decide (i = j) := by simp only [eqD, eq0]
theorem eqD_SS : eqD (.str s) (.str s2) = decide (s = s2) := by simp only [eqD, eq0]
theorem eqD_BB : eqD (.bl bb) (.bl b2) = decide (bb = b2) := by simp only [eqD, eq0]
theorem eqD_NN : eqD .non .non = true := by simp only [eqD, eq0]
theorem eqD_IN : eqD (.int i) .non = false := by simp only [eqD, eq0]
theorem eqD_NI : eqD .non (.int i) = false := by simp only [eqD, eq0]
theorem eqD_SN : eqD (.str s) .non = false := by simp only [eqD, eq0]
theorem eqD_NS : eqD .non (.str s) = false := by simp only [eqD, eq0]
theorem eqD_IS : eqD (.int i) (.str s) = false := by simp only [eqD, eq0]
theorem eqD_SI : eqD (.str s) (.int i) = false := by simp only [eqD, eq0]
theorem p_eq (k : Q (.bl (decide (i = j)))) : pEq (.int i) (.int j) Q := p_eqf rfl rfl (by rw [eqD_II]; exact k)
theorem p_eqS (k : Q (.bl (decide (s = s2)))) : pEq (.str s) (.str s2) Q := p_eqf rfl rfl (by rw [eqD_SS]; exact k)
theorem p_eqB (k : Q (.bl (decide (bb = b2)))) : pEq (.bl bb) (.bl b2) Q := p_eqf rfl rfl (by rw [eqD_BB]; exact k)
theorem p_ne (k : Q (.bl (!decide (i = j)))) : pNe (.int i) (.int j) Q := p_nef rfl rfl (by rw [eqD_II]; exact k)
theorem p_neS (k : Q (.bl (!decide (s = s2)))) : pNe (.str s) (.str s2) Q := p_nef rfl rfl (by rw [eqD_SS]; exact k)
theorem p_neB (k : Q (.bl (!decide (bb = b2)))) : pNe (.bl bb) (.bl b2) Q := p_nef rfl rfl (by rw [eqD_BB]; exact k)
theorem p_eqIS (k : Q (.bl false)) : pEq (.int i) (.str s) Q := p_eqf rfl rfl (by rw [eqD_IS]; exact k)
theorem p_eqSI (k : Q (.bl false)) : pEq (.str s) (.int i) Q := p_eqf rfl rfl (by rw [eqD_SI]; exact k)
theorem p_is (k : Q (.bl (isNon x))) : pIs x .non Q := by cases x <;> exact k
theorem p_isNot (k : Q (.bl (!isNon x))) : pIsNot x .non Q := by cases x <;> exact k
theorem p_isB (k : Q (.bl (decide (bb = b2)))) : pIs (.bl bb) (.bl b2) Q := k
theorem p_ixL (h : atI l i = some d) (k : Q d) : pIx (.lst l) (.int i) Q := ⟨d, h, k⟩
theorem p_ixT (h : atI l i = some d) (k : Q d) : pIx (.tup l) (.int i) Q := ⟨d, h, k⟩
theorem p_lenL (k : Q (.int l.length)) : pLen [.lst l] Q := k
theorem p_lenT (k : Q (.int l.length)) : pLen [.tup l] Q := k
theorem p_lenS (h : s.length ≤ 100000) (k : Q (.int s.length)) : pLen [.str s] Q := ⟨h, k⟩
theorem p_int (k : Q (.int i)) : pInt [.int i] Q := k
theorem p_intB (k : Q (.int (if bb then 1 else 0))) : pInt [.bl bb] Q := k
theorem p_max (k : Q (.int (if j > i then j else i))) : pMax [.int i, .int j] Q := k
theorem p_min (k : Q (.int (if j < i then j else i))) : pMin [.int i, .int j] Q := k
theorem p_abs (k : Q (.int (if i < 0 then -i else i))) : pAbs [.int i] Q := k
theorem p_listL (k : Q (.lst l)) : pList [.lst l] Q := k
theorem p_listT (k : Q (.lst l)) : pList [.tup l] Q := k
theorem p_tupleL (k : Q (.tup l)) : pTuple [.lst l] Q := k
theorem p_tupleT (k : Q (.tup l)) : pTuple [.tup l] Q := k
theorem p_strI (h : i.natAbs.log2 < 1920) (k : Q (.str (toString i))) : pStr [.int i] Q := ⟨h, k⟩
theorem p_strS (k : Q (.str s)) : pStr [.str s] Q := k
theorem p_isi {m : String} (h : okTy x = true) (hn : m = "int" ∨ m = "bool" ∨ m = "str" ∨ m = "tuple" ∨ m = "list") (k : Q (.bl (isTy m x))) : pIsi [x, .ty m] Q := ⟨h, hn, k⟩
theorem p_isC (k : a ρ fun d => isC1 s d Q) : pIsC s a ρ Q := k
theorem p_isCi {X : Str} {KS : List Str} {L : List Da} (k : Q (.bl (SUB X s))) : isC1 s (.ins X KS L) Q := k
-- calls
theorem p_cal (k : t ρ fun ds => ps ds Q fun _ => False) : pCal ps t ρ Q := k
theorem p_calS (k : t ρ fun ds => ps ds Q fun x => Wp x ρ) : pCalS Wp ps t ρ Q := k
theorem p_mt {m : Str} (k : a ρ fun d => ∃ ks l, d = .ins s ks l ∧ ks.contains m = false ∧ t ρ fun ds => ps (d :: ds) Q fun _ => False) : pMt s m ps a t ρ Q := k
theorem p_mtX {m : Str} (k : a ρ fun d => ∃ ks l, d = .ins s ks l ∧ ks.contains m = false ∧ t ρ fun ds => ps (d :: ds) Q fun x => Wp x ρ) : pMtX Wp s m ps a t ρ Q := k
theorem p_pr (k : a ρ fun d => ∃ ks l, d = .ins s ks l ∧ ps [d] Q fun _ => False) : pPr s ps a ρ Q := k
theorem p_insM {X : Str} {KS : List Str} {L : List Da} {m : Str} {P : Prop} (h : KS.contains m = false) (k : P) : ∃ ks l, Da.ins X KS L = .ins X ks l ∧ ks.contains m = false ∧ P := ⟨KS, L, rfl, h, k⟩
theorem p_insP {X : Str} {KS : List Str} {L : List Da} {P : Prop} (k : P) : ∃ ks l, Da.ins X KS L = .ins X ks l ∧ P := ⟨KS, L, rfl, k⟩
theorem p_mk {gs : List Str} {pi : PSi} (k : t ρ fun ds => pi ds (fun l => Q (.ins s gs l)) fun _ => False) : pMk s gs pi t ρ Q := k
theorem p_mkX {gs : List Str} {pi : PSi} (k : t ρ fun ds => pi ds (fun l => Q (.ins s gs l)) fun y => Wp y ρ) : pMkX Wp s gs pi t ρ Q := k
theorem p_mkK {gs : List Str} {pi : PSi} {n nk : Nat} {ms : List Cst} {sel : List (Bool × Nat)} (k : t ρ fun ds => u ρ fun dz => ds.length = n ∧ dz.length = nk ∧ pi (selD sel ms ds dz) (fun l => Q (.ins s gs l)) fun y => Wp y ρ) : pMkK Wp s gs n nk ms sel pi t u ρ Q := k
-- slices
theorem p_sl {lo hi : POp} (k : a ρ fun d => lo ρ fun l => hi ρ fun h => slD d l h Q) : pSl a lo hi ρ Q := k
theorem p_slL {o1 o2 : Option Int} (k : Q (.lst (cutD l o1 o2))) : slD (.lst l) o1 o2 Q := k
theorem p_slT {o1 o2 : Option Int} (k : Q (.tup (cutD l o1 o2))) : slD (.tup l) o1 o2 Q := k
theorem p_noPart {QO : Option Int → Prop} (k : QO none) : pNoPart ρ QO := k
theorem p_part {QO : Option Int → Prop} (k : a ρ fun d => ∃ i, d = .int i ∧ QO (some i)) : pPart a ρ QO := k
theorem p_parti {P : Int → Prop} (k : P i) : ∃ j, Da.int i = .int j ∧ P j := ⟨i, rfl, k⟩
-- statements
theorem p_next (k : D.nx ρ) : pNext D ρ := k
theorem p_seq (k : p { D with nx := q D } ρ) : pSeq p q D ρ := k
theorem p_cut (M : PEnv → Prop) (k : p { D with nx := M } ρ) (h : ∀ ρ', M ρ' → q D ρ') : pCut p q D ρ := ⟨M, k, h⟩
theorem p_cutI (k : p { D with nx := q D } ρ) : pCut p q D ρ := ⟨q D, k, fun _ h => h⟩
theorem p_asg (k : a ρ fun d => D.nx (ρ.set n (some (.d d)))) : pAsg a (pgName n) D ρ := k
theorem p_asgG (k : a ρ fun d => g d ρ D.nx) : pAsg a g D ρ := k
theorem p_drop (k : a ρ fun _ => D.nx ρ) : pDrop a D ρ := k
theorem p_ret (k : a ρ D.rt) : pRet a D ρ := k
theorem p_retN (k : D.rt .non) : pRetN D ρ := k
theorem p_ifS (k : c ρ fun b => if b = true then p D ρ else q D ρ) : pIfS c p q D ρ := k
theorem p_brk (k : D.bk ρ) : pBreak D ρ := k
theorem p_cont (k : D.ct ρ) : pCont D ρ := k
theorem p_rse (k : Wp s ρ) : pRaise Wp s D ρ := k
theorem p_rseA (k : a ρ fun _ => Wp s ρ) : pRaiseA Wp s a D ρ := k
theorem p_asgO (k : t ρ fun l => D.nx (ρ.set n (some (.own l)))) : pAsgO n t D ρ := k
theorem p_app (h : ρ[n]? = some (some (.own l))) (hl : l.length < 100000) (k : a ρ fun d => D.nx (ρ.set n (some (.own (l ++ [d]))))) : pApp n a D ρ := ⟨l, h, hl, k⟩
theorem p_setI (h : ρ[n]? = some (some (.own l))) (k : b ρ fun d => a ρ fun e => ∃ k j, e = .int k ∧ ixN l.length k = some j ∧ D.nx (ρ.set n (some (.own (l.set j d))))) : pSetI n a b D ρ := ⟨l, h, k⟩
theorem p_setJ {P : Nat → Prop} {j : Nat} (h : ixN l.length i = some j) (k : P j) : ∃ k j, Da.int i = .int k ∧ ixN l.length k = some j ∧ P j := ⟨i, j, rfl, h, k⟩
theorem p_frz (h : ρ[n]? = some (some (.own l))) (k : p D (ρ.set n (some (.d (.lst l))))) : pFrz n p D ρ := ⟨l, h, k⟩
theorem p_bor (h : ρ[n]? = some (some (.own l))) (k : a (ρ.set n (some (.d (.lst l)))) fun d => flD d = true ∧ Q d) : pBor n a ρ Q := ⟨l, h, k⟩
theorem p_borT (h : ρ[n]? = some (some (.own l))) (k : c (ρ.set n (some (.d (.lst l)))) QB) : pBorT n c ρ QB := ⟨l, h, k⟩
theorem p_fl {P : Prop} (h : flD d = true) (k : P) : flD d = true ∧ P := ⟨h, k⟩
theorem p_setF {X : Str} {gs ks : List Str} (h : ρ[n]? = some (some (.obj X gs ks l))) (hc : gs.contains f = true) (hk : ks.length < 1000) (k : a ρ fun d => D.nx (ρ.set n (some (.obj X gs (putK f ks) (putL f d ks l))))) : pSetF n f a D ρ := ⟨X, gs, ks, l, h, hc, hk, k⟩
theorem p_gName {QE : PEnv → Prop} (k : QE (ρ.set n (some (.d d)))) : pgName n d ρ QE := k
theorem p_gTup {QE : PEnv → Prop} {tg : PTgs} (h : l.length = k) (z : tg l ρ QE) : pgTup k tg (.tup l) ρ QE := ⟨l, rfl, h, z⟩
theorem p_gNil {QE : PEnv → Prop} (k : QE ρ) : pgNil [] ρ QE := ⟨rfl, k⟩
theorem p_gCons {QE : PEnv → Prop} {tg : PTgs} (k : g d ρ fun ρ' => tg l ρ' QE) : pgCons g tg (d :: l) ρ QE := ⟨d, l, rfl, k⟩
theorem p_try {x : Str} {ys : List Str} {pb : WP → PSt} (k : pb (fun y ρ' => y ∈ ys ∧ if SUB y x = true then p D ρ' else Wp y ρ') D ρ) : pTry x ys pb p Wp D ρ := k
-- walks
theorem p_for {pi : PIt} (k : pi ρ fun l => pLoop l g p D ρ) : pFor pi g p D ρ := k
theorem p_isq (k : a ρ fun d => ∃ l, (d = .lst l ∨ d = .tup l) ∧ QA l) : piSq a ρ QA := k
theorem p_isqL {P : List Da → Prop} (k : P l) : ∃ m, (Da.lst l = .lst m ∨ Da.lst l = .tup m) ∧ P m := ⟨l, .inl rfl, k⟩
theorem p_isqT {P : List Da → Prop} (k : P l) : ∃ m, (Da.tup l = .lst m ∨ Da.tup l = .tup m) ∧ P m := ⟨l, .inr rfl, k⟩
theorem p_irng1 (k : t ρ fun ds => ∃ j : Int, ds = [.int j] ∧ -1000000 ≤ j ∧ j ≤ 1000000 ∧ QA (rngD 0 j.toNat)) : piRng1 t ρ QA := k
theorem p_irng2 (k : t ρ fun ds => ∃ i j : Int, ds = [.int i, .int j] ∧ (-1000000 ≤ i ∧ i ≤ 1000000 ∧ -1000000 ≤ j ∧ j ≤ 1000000) ∧ QA (rngD i (j - i).toNat)) : piRng2 t ρ QA := k
theorem p_rng1 {P : Int → Prop} (h : -1000000 ≤ i ∧ i ≤ 1000000) (k : P i) : ∃ j : Int, [Da.int i] = [.int j] ∧ -1000000 ≤ j ∧ j ≤ 1000000 ∧ P j := ⟨i, rfl, h.1, h.2, k⟩
theorem p_rng2 {P : Int → Int → Prop} (h : -1000000 ≤ i ∧ i ≤ 1000000 ∧ -1000000 ≤ j ∧ j ≤ 1000000) (k : P i j) : ∃ i' j' : Int, [Da.int i, Da.int j] = [.int i', .int j'] ∧ (-1000000 ≤ i' ∧ i' ≤ 1000000 ∧ -1000000 ≤ j' ∧ j' ≤ 1000000) ∧ P i' j' := ⟨i, j, rfl, h, k⟩
theorem p_izip (k : t ρ fun ds => ∃ a b, (ds = [.lst a, .lst b] ∨ ds = [.tup a, .tup b]) ∧ QA (zipD a b)) : piZip t ρ QA := k
theorem p_zipL {P : List Da → List Da → Prop} (k : P l l2) : ∃ a b, ([Da.lst l, Da.lst l2] = [.lst a, .lst b] ∨ [Da.lst l, Da.lst l2] = [.tup a, .tup b]) ∧ P a b := ⟨l, l2, .inl rfl, k⟩
theorem p_zipT {P : List Da → List Da → Prop} (k : P l l2) : ∃ a b, ([Da.tup l, Da.tup l2] = [.lst a, .lst b] ∨ [Da.tup l, Da.tup l2] = [.tup a, .tup b]) ∧ P a b := ⟨l, l2, .inr rfl, k⟩
theorem p_ienum (k : t ρ fun ds => ∃ l, (ds = [.lst l] ∨ ds = [.tup l]) ∧ QA (enumD l)) : piEnum t ρ QA := k
theorem p_enumL {P : List Da → Prop} (k : P l) : ∃ m, ([Da.lst l] = [.lst m] ∨ [Da.lst l] = [.tup m]) ∧ P m := ⟨l, .inl rfl, k⟩
theorem p_enumT {P : List Da → Prop} (k : P l) : ∃ m, ([Da.tup l] = [.lst m] ∨ [Da.tup l] = [.tup m]) ∧ P m := ⟨l, .inr rfl, k⟩
theorem p_loop (I : Nat → PEnv → Prop) (h0 : I 0 ρ) (hs : ∀ i x ρ', l[i]? = some x → I i ρ' → g x ρ' fun ρ2 => p { D with nx := I (i + 1), ct := I (i + 1), bk := D.nx } ρ2) (hd : ∀ ρ', I l.length ρ' → D.nx ρ') : pLoop l g p D ρ := ⟨I, h0, hs, hd⟩
theorem p_loopR {lo : Int} {m : Nat} (I : Nat → PEnv → Prop) (h0 : I 0 ρ) (hs : ∀ (i : Nat) ρ', i < m → I i ρ' → g (.int (lo + i)) ρ' fun ρ2 => p { D with nx := I (i + 1), ct := I (i + 1), bk := D.nx } ρ2) (hd : ∀ ρ', I m ρ' → D.nx ρ') : pLoop (rngD lo m) g p D ρ :=
  ⟨I, h0, fun i x ρ' hx ii => by obtain ⟨h, rfl⟩ := rngD_get hx; exact hs i ρ' h ii, fun ρ' ii => by rw [rngD_len] at ii; exact hd ρ' ii⟩
theorem p_while (I : Nat → PEnv → Prop) (m : Nat) (h0 : I m ρ) (hs : ∀ m ρ, I m ρ → c ρ fun k => if k = true then p { D with nx := fun ρ' => ∃ m', m' < m ∧ I m' ρ', ct := fun ρ' => ∃ m', m' < m ∧ I m' ρ', bk := D.nx } ρ else D.nx ρ) : pWhile c p D ρ := ⟨I, ⟨m, h0⟩, hs⟩
theorem p_lc {pi : PIt} {us : List Nat} (k : pi ρ fun l => pComp l g c e us ρ fun r => Q (.lst r)) : pLc pi g c e us ρ Q := k
theorem p_lcF {pi : PIt} {us : List Nat} (k : pi ρ fun l => pComp l g c e us ρ QA) : pLcF pi g c e us ρ QA := k
theorem p_comp {us : List Nat} (hn : l.length ≤ 90000) (R : Nat → List Da → Prop) (h0 : R 0 []) (hs : ∀ i x acc, l[i]? = some x → R i acc → g x (wipeP ρ us) fun ρ2 => c ρ2 fun b => if b = true then e ρ2 fun y => R (i + 1) (acc ++ [y]) else R (i + 1) acc) (hd : ∀ acc, R l.length acc → QA acc) : pComp l g c e us ρ QA := ⟨hn, R, h0, hs, hd⟩
/-- [f(x) for x in l] -/
theorem p_map {us : List Nat} (hn : l.length ≤ 90000) (F : Da → Da) (hs : ∀ (i : Nat) (x : Da) (R : Da → Prop), l[i]? = some x → R (F x) → g x (wipeP ρ us) fun ρ2 => e ρ2 R) (hd : QA (l.map F)) : pComp l g pYes e us ρ QA := by
  refine ⟨hn, fun i acc => acc = (l.take i).map F, rfl, fun i x acc hx ha => ?_, fun acc ha => by rw [ha, List.take_length]; exact hd⟩
  subst ha
  have := hs i x (fun y => (l.take i).map F ++ [y] = (l.take (i + 1)).map F) hx (by
    rw [List.take_add_one, hx, List.map_append]; rfl)
  refine cast (congrArg (g x (wipeP ρ us)) ?_) this
  funext ρ2
  dsimp only [pYes]
  rw [if_pos rfl]
theorem p_newL (k : t ρ fun ds => ds.length ≤ 100000 ∧ QA ds) : pNewL t ρ QA := k
theorem p_listF (k : t ρ fun ds => listF1 ds QA) : pListF t ρ QA := k
theorem p_listFL (k : QA l) : listF1 [.lst l] QA := k
theorem p_listFT (k : QA l) : listF1 [.tup l] QA := k
theorem p_addF (k : a ρ fun x => b ρ fun y => addF1 x y QA) : pAddF a b ρ QA := k
theorem p_addFL (h : l.length + l2.length ≤ 100000) (k : QA (l ++ l2)) : addF1 (.lst l) (.lst l2) QA := ⟨h, k⟩
theorem p_slF {lo hi : POp} (k : a ρ fun d => lo ρ fun l => hi ρ fun h => slF1 d l h QA) : pSlF a lo hi ρ QA := k
theorem p_slFL {o1 o2 : Option Int} (k : QA (cutD l o1 o2)) : slF1 (.lst l) o1 o2 QA := k
end

local macro_rules | `(tactic| walk_at "pf") => `(tactic| (simp only [List.length_cons, List.length_nil]; with_unfolding_all decide))
local macro_rules | `(tactic| walk_at "po") => `(tactic| (with_reducible first
  | refine p_add ?_ | refine p_sub ?_ | refine p_lt ?_ | refine p_le ?_ | refine p_gt ?_ | refine p_ge ?_ | refine p_eq ?_ | refine p_ne ?_ | refine p_eqS ?_ | refine p_neS ?_ | refine p_eqB ?_ | refine p_neB ?_ | refine p_neg ?_ | refine p_int ?_ | refine p_intB ?_ | refine p_max ?_ | refine p_min ?_ | refine p_abs ?_
  | refine p_is ?_ | refine p_isNot ?_ | refine p_isB ?_ | refine p_eqIS ?_ | refine p_eqSI ?_ | refine p_ltS ?_ | refine p_leS ?_ | refine p_gtS ?_ | refine p_geS ?_ | refine p_lenL ?_ | refine p_lenT ?_ | refine p_listL ?_ | refine p_listT ?_ | refine p_tupleL ?_ | refine p_tupleT ?_ | refine p_strS ?_
  | refine p_slL ?_ | refine p_slT ?_ | refine p_parti ?_ | refine p_isqL ?_ | refine p_isqT ?_ | refine p_zipL ?_ | refine p_zipT ?_ | refine p_enumL ?_ | refine p_enumT ?_ | refine p_bl ?_ | refine p_trb ?_ | refine p_tri ?_ | refine p_trl ?_ | refine p_trt ?_ | refine p_trn ?_ | refine p_isCi ?_ | refine p_insP ?_ | refine p_listFL ?_ | refine p_listFT ?_ | refine p_slFL ?_))
local macro_rules | `(tactic| walk_at "pe") => `(tactic| (with_reducible first
  | ((show pVar _ _ _); refine p_var (by with_unfolding_all rfl) ?_) | refine p_c ?_ | refine p_op ?_ | refine p_cons ?_ | refine p_nil ?_ | refine p_fldt ?_ | refine p_cal ?_ | refine p_cb ?_ | refine p_test ?_ | refine p_un ?_ | refine p_tru ?_ | refine p_and ?_ | refine p_or ?_ | refine p_not ?_ | refine p_andV ?_ | refine p_orV ?_ | refine p_notV ?_ | refine p_if ?_ | refine p_lst ?_ | refine p_tup ?_ | refine p_chain ?_ | refine p_calS ?_ | refine p_mt ?_ | refine p_mtX ?_ | refine p_pr ?_ | refine p_mk ?_ | refine p_mkX ?_ | refine p_mkK ?_ | refine p_sl ?_ | refine p_part ?_ | refine p_noPart ?_ | refine p_isC ?_ | refine p_yes ?_ | refine p_lc ?_ | refine p_lcF ?_ | refine p_isq ?_ | refine p_irng1 ?_ | refine p_irng2 ?_ | refine p_izip ?_ | refine p_ienum ?_ | refine p_newL ?_ | refine p_listF ?_ | refine p_addF ?_ | refine p_slF ?_))
local macro_rules | `(tactic| walk_at "ps") => `(tactic| (with_reducible first
  | refine p_seq ?_ | refine p_asg ?_ | refine p_ifS ?_ | refine p_ret ?_ | refine p_drop ?_ | refine p_next ?_ | refine p_brk ?_ | refine p_cont ?_ | refine p_retN ?_ | refine z_iteT ?_ | refine z_iteF ?_ | refine p_for ?_ | refine p_asgO ?_ | refine p_asgG ?_ | refine p_rse ?_ | refine p_rseA ?_ | refine p_gName ?_ | refine p_gNil ?_ | refine p_gCons ?_ | refine p_try ?_
  | ((show pgTup _ _ _ _ _); refine p_gTup (by with_unfolding_all rfl) ?_)
  | ((show pApp _ _ _ _); refine p_app (by with_unfolding_all rfl) ?_ ?_; rotate_left)
  | ((show pSetI _ _ _ _ _); refine p_setI (by with_unfolding_all rfl) ?_)
  | ((show pFrz _ _ _ _); refine p_frz (by with_unfolding_all rfl) ?_)
  | ((show pBor _ _ _ _); refine p_bor (by with_unfolding_all rfl) ?_)
  | ((show pBorT _ _ _ _); refine p_borT (by with_unfolding_all rfl) ?_)
  | ((show pSetF _ _ _ _ _); refine p_setF (by with_unfolding_all rfl) (by with_unfolding_all rfl) (by with_unfolding_all exact of_decide_eq_true rfl) ?_)))
local macro_rules | `(tactic| walk_at "pp") => `(tactic| with_reducible first
  | ((show pMul _ _ _); refine p_mul (by walk_at "mulok") ?_)
  | ((show pDiv _ _ _); refine p_div (by exact div1 (by omega)) ?_)
  | ((show pMod _ _ _); refine p_mod (by omega) ?_)
  | ((show pPow _ _ _); refine p_pow (by with_unfolding_all exact ⟨by decide, by decide, by decide⟩) ?_; (simp only [Int.reduceToNat, Int.reducePow]))
  | ((show pIx (Da.lst _) _ _); refine p_ixL (by first | with_unfolding_all rfl | assumption) ?_)
  | ((show pIx (Da.tup _) _ _); refine p_ixT (by first | with_unfolding_all rfl | assumption) ?_)
  | (refine p_fld (by with_unfolding_all rfl) ?_)
  | (refine p_insM (by with_unfolding_all rfl) ?_)
  | (refine p_nl (by walk_at "pf") ?_)
  | (refine p_isi (by with_unfolding_all rfl) (by with_unfolding_all decide) ?_)
  | (refine p_fl (by with_unfolding_all rfl) ?_))
local macro_rules | `(tactic| walk_at "p1") => `(tactic| first | walk_at "pe" | walk_at "po" | walk_at "ps" | walk_at "pp" | (dsimp only [List.set]))
local macro_rules | `(tactic| walk_at "pz") => `(tactic| repeat (walk_at "p1"))
local macro_rules | `(tactic| walk_at "pd") => `(tactic| ((with_reducible show ite _ _ _); first | refine z_iteT' (by decide +kernel) ?_ | refine z_iteF' (by decide +kernel) ?_))
local macro_rules | `(tactic| walk_at "px") => `(tactic| repeat (first | walk_at "p1" | walk_at "pd"))
local macro_rules | `(tactic| walk_at "pr") => `(tactic| ((with_reducible show ite _ _ _); first | refine z_iteT' (by with_unfolding_all rfl) ?_ | refine z_iteF' (by with_unfolding_all rfl) ?_))
local macro_rules | `(tactic| walk_at "py") => `(tactic| repeat (first | walk_at "p1" | walk_at "pr"))

/-! ### own == by all fields -/
def seqD (v : Da) (l : List Da) : Prop := v = .lst l ∨ v = .tup l
abbrev prD (l : List (Da × Da)) : List Da := l.map fun z => .tup [z.1, z.2]
theorem prD_len {l : List (Da × Da)} : (prD l).length = l.length := List.length_map ..
theorem p_isqS {v : Da} {l : List Da} {P : List Da → Prop} (h : seqD v l) (k : P l) : ∃ m, (v = .lst m ∨ v = .tup m) ∧ P m := ⟨l, h, k⟩
theorem p_tupleS {v : Da} {l : List Da} {Q : Da → Prop} (h : seqD v l) (k : Q (.tup l)) : pTuple [v] Q := by rcases h with rfl | rfl <;> exact k
theorem p_listS {v : Da} {l : List Da} {Q : Da → Prop} (h : seqD v l) (k : Q (.lst l)) : pList [v] Q := by rcases h with rfl | rfl <;> exact k
theorem p_lenSq {v : Da} {l : List Da} {Q : Da → Prop} (h : seqD v l) (k : Q (.int l.length)) : pLen [v] Q := by rcases h with rfl | rfl <;> exact k
/-- what an own == may be asked: another one of the class, one of another class, or something else -/
def EqAsk (X : Str) (KS : List Str) (ok : List Da → List Da → Prop) (l : List Da) (e : Da) : Prop := l.length = KS.length ∧ ((∃ m, e = .ins X KS m ∧ m.length = KS.length ∧ ok l m) ∨ (∃ y ks m, e = .ins y ks m ∧ SUB y X = false) ∨ okTy e = true)
def psEqOf (X : Str) (KS : List Str) (ok : List Da → List Da → Prop) : PSp := fun ds Q _ => ∃ l e, ds = [.ins X KS l, e] ∧ EqAsk X KS ok l e ∧ Q (.bl (eqD (.ins X KS l) e))
theorem SUB_self (x : Str) : SUB x x = true := by unfold SUB; simp
theorem eqD_other {X Y : Str} {KS ks : List Str} {l m : List Da} (h : SUB Y X = false) : eqD (.ins X KS l) (.ins Y ks m) = false := by
  have : X ≠ Y := fun z => by subst z; rw [SUB_self] at h; cases h
  simp only [eqD, decide_eq_false this, Bool.false_and]
theorem eqD_else {X : Str} {KS : List Str} {l : List Da} {e : Da} (h : okTy e = true) : eqD (.ins X KS l) e = false := by
  cases e <;> first | (cases h; done) | (simp only [eqD, eq0])
theorem eqD_same {X : Str} {KS : List Str} {l m : List Da} (h : X ≠ "Record") : eqD (.ins X KS l) (.ins X KS m) = eqDs l m := by
  simp only [eqD, decide_true, Bool.true_and, if_neg h]
theorem eqD_sym0 {x y : Da} : eq0 x y = eq0 y x := by
  cases x <;> cases y <;> simp only [eq0] <;> first | rfl | (rw [Bool.eq_iff_iff, decide_eq_true_iff, decide_eq_true_iff]; exact eq_comm)
/-- isinstance(other, X) -/
theorem p_isAsk {X : Str} {KS : List Str} {ok : List Da → List Da → Prop} {l : List Da} {e : Da} {Q : Da → Prop} (h : EqAsk X KS ok l e) (k1 : ∀ m, e = .ins X KS m → m.length = KS.length → ok l m → Q (.bl true)) (k2 : eqD (.ins X KS l) e = false → Q (.bl false)) : isC1 X e Q := by
  rcases h.2 with ⟨m, rfl, hl, ho⟩ | ⟨y, ks, m, rfl, hs⟩ | ho
  · show Q (.bl (SUB X X)); rw [SUB_self]; exact k1 m rfl hl ho
  · show Q (.bl (SUB y X)); rw [hs]; exact k2 (eqD_other hs)
  · have z := k2 (eqD_else ho)
    cases e <;> first | (cases ho; done) | exact ⟨rfl, z⟩
theorem CqX.flat {tab : ETab} {n : Nat} {x y : Da} (h1 : flD x = true) (h2 : flD y = true) : CqX tab n x y := by
  cases n with
  | zero => exact ⟨h1, h2⟩
  | succ n => exact .inl ⟨h1, h2⟩
theorem CqX.tup {tab : ETab} {n : Nat} {a b : List Da} (h : ∀ (i : Nat) (u v : Da), a[i]? = some u → b[i]? = some v → CqX tab n u v) : CqX tab (n + 1) (.tup a) (.tup b) := .inr (.inl ⟨a, b, rfl, rfl, h⟩)
theorem CqX.lst {tab : ETab} {n : Nat} {a b : List Da} (h : ∀ (i : Nat) (u v : Da), a[i]? = some u → b[i]? = some v → CqX tab n u v) : CqX tab (n + 1) (.lst a) (.lst b) := .inr (.inr (.inl ⟨a, b, rfl, rfl, h⟩))
theorem CqX.ins {tab : ETab} {n : Nat} {X : Str} {KS : List Str} {ok : List Da → List Da → Prop} {l : List Da} {e : Da} (hm : (X, psEqOf X KS ok) ∈ tab) (h : EqAsk X KS ok l e) (hr : eqD (.ins X KS l) (.ins X KS l) = true) (ht : ∀ y ks m, e = .ins y ks m → y = X ∨ ∃ ps, (y, ps) ∈ tab) : CqX tab (n + 1) (.ins X KS l) e := by
  refine .inr (.inr (.inr ⟨X, KS, l, rfl, ⟨_, hm, l, e, rfl, h, rfl⟩, hr, ?_⟩))
  rcases h.2 with ⟨m, rfl, _, _⟩ | ⟨y, ks, m, rfl, hs⟩ | ho
  · exact .inl ⟨X, KS, m, rfl, .inl rfl⟩
  · exact .inl ⟨y, ks, m, rfl, (ht y ks m rfl).imp id fun z => ⟨z, hs⟩⟩
  · exact .inr ho

theorem p_filt {α : Type} {l : List α} {f g : α → Da} {pg : PTg} {c : PTe} {e : PEx} {us : List Nat} {ρ : PEnv} {QA : List Da → Prop} (P : α → Bool) (hn : l.length ≤ 90000) (hs : ∀ (i : Nat) (a : α) (k1 : Da → Prop) (k2 : Prop), l[i]? = some a → (P a = true → k1 (g a)) → (P a = false → k2) → pg (f a) (wipeP ρ us) fun ρ2 => c ρ2 fun b => if b = true then e ρ2 k1 else k2) (hd : QA ((l.filter P).map g)) : pComp (l.map f) pg c e us ρ QA := by
  refine ⟨by rw [List.length_map]; exact hn, fun i acc => acc = ((l.take i).filter P).map g, rfl, fun i x acc hx ha => ?_, fun acc ha => by rw [ha, List.length_map, List.take_length]; exact hd⟩
  rw [List.getElem?_map] at hx
  cases e' : l[i]? with
  | none => rw [e'] at hx; cases hx
  | some a =>
    rw [e'] at hx
    cases hx
    subst ha
    have tk : l.take (i + 1) = l.take i ++ [a] := by rw [List.take_add_one, e']; rfl
    refine hs i a _ _ e' (fun h => ?_) (fun h => ?_)
    · show _ = _
      rw [tk, List.filter_append, List.map_append, List.filter_cons_of_pos h]; rfl
    · show _ = _
      rw [tk, List.filter_append, List.map_append, List.filter_cons_of_neg (by rw [h]; exact Bool.false_ne_true)]; simp
theorem p_compS {α : Type} {l : List Da} {g : PTg} {e : PEx} {us : List Nat} {ρ : PEnv} {QA : List Da → Prop} (f : α → Da) (P : α → Prop) (hn : l.length ≤ 90000) (hs : ∀ (i : Nat) (x : Da) (k : Da → Prop), l[i]? = some x → (∀ a, P a → k (f a)) → g x (wipeP ρ us) fun ρ2 => e ρ2 k) (hd : ∀ as : List α, as.length = l.length → (∀ a ∈ as, P a) → QA (as.map f)) : pComp l g pYes e us ρ QA := by
  refine ⟨hn, fun i acc => ∃ as : List α, acc = as.map f ∧ as.length = i ∧ ∀ a ∈ as, P a, ⟨[], rfl, rfl, fun a h => by cases h⟩, fun i x acc hx ⟨as, ha, hl, hp⟩ => ?_, fun acc ⟨as, ha, hl, hp⟩ => by subst ha; exact hd as hl hp⟩
  have := hs i x (fun y => ∃ bs : List α, acc ++ [y] = bs.map f ∧ bs.length = i + 1 ∧ ∀ a ∈ bs, P a) hx (fun a h => ⟨as ++ [a], by rw [ha]; simp, by simp [hl], fun b hb => by
    rcases List.mem_append.mp hb with hb | hb
    · exact hp b hb
    · obtain rfl := List.mem_singleton.mp hb; exact h⟩)
  refine cast (congrArg (g x (wipeP ρ us)) ?_) this
  funext ρ2
  dsimp only [pYes]
  rw [if_pos rfl]

theorem p_istr {p : PEx} {ρ : PEnv} {Q : List Da → Prop} (k : p ρ fun d => ∃ x, d = .str x ∧ Q (strD x)) : piStr p ρ Q := k
theorem p_kst {P : Str → Prop} {x : Str} (k : P x) : ∃ z, Da.str x = .str z ∧ P z := ⟨x, rfl, k⟩
theorem p_ord {c : Nat} {Q : Da → Prop} (k : Q (.int (c : Nat))) : pOrd [.str ⟨#[c]⟩] Q := ⟨rfl, k⟩
theorem p_cstT {xs : List V} {ρ : PEnv} {Q : Da → Prop} (k : Q (.tup (xs.map vD))) : pCstT xs ρ Q := k
theorem getD_lt {α : Type} {l : List α} {i : Nat} (d : α) (h : i < l.length) : l[i]? = some (l.getD i d) := by rw [List.getD_eq_getElem?_getD, List.getElem?_eq_getElem h]; rfl

/-! != of an own instance (its class has no own __ne__) -/
def NTab (K : PySem.W.Frag) (c : CEnv) (tab : ETab) : Prop := ∀ z ∈ tab, PySem.W.findIn K (.ref (c.cls z.1)) "__ne__" = some (some (.builtin "object.__ne__"))
def NeAsk (tab : ETab) (d e : Da) : Prop := ∃ x ks a ps, d = .ins x ks a ∧ (x, ps) ∈ tab ∧ ps [d, e] (fun r => r = .bl (eqD d e)) (fun _ => False) ∧ ((∃ k2 ks2 b, e = .ins k2 ks2 b ∧ (k2 = x ∨ ((∃ ps2, (k2, ps2) ∈ tab) ∧ SUB k2 x = false))) ∨ okTy e = true)
def rNeX (K : PySem.W.Frag) (c : CEnv) (tab : ETab) : R2 := fun x y H Q => ∃ (S : Option (Addr × Addr)) (O : List Addr) (d e : Da), GoodH S O H ∧ Rp K c (S.map (·.1)) (hid H O) x d ∧ Rp K c (S.map (·.1)) (hid H O) y e ∧ NeAsk tab d e ∧ ∀ H', Ex S H H' → Q (.bl (!eqD d e)) H'
def uNeX (K : PySem.W.Frag) (c : CEnv) (tab : ETab) : R2 := fun x y H Q => uNe K x y H Q ∨ rNeX K c tab x y H Q
section
variable {X : Cx} {c : CEnv} {k : Nat} {tab : ETab}
theorem op_rNeX (T : ETabOk X c k tab) (NE : NTab X.K c tab) (hr : Room (k + 1) X.A) : OpR X (compareOp .NotEq) (rNeX X.K c tab) := by
  intro pins s σ H u v y z Q I rx ry hq
  obtain ⟨S, O, d, e, g, hx, hy, ⟨x, ks, a, ps, hd, hm, hp, ho⟩, q⟩ := hq
  subst hd
  obtain ⟨IF, ⟨gs, ok⟩, f, fd, pn, k', sp, hk, hM, hb, F, hs⟩ := T _ hm
  obtain ⟨p, dx, xs, rfl, ok', e1, hl, ra⟩ := rpO hx
  have t : RTy X.K c x H v := rty_of hy (ho.imp (fun ⟨k2, ks2, b, e, h⟩ => ⟨k2, ks2, b, e, h.imp id fun ⟨⟨ps2, m2⟩, h⟩ => by
    obtain ⟨_, ⟨g2, ok2⟩, _⟩ := T _ m2
    rw [ok2.sb x IF.has, h]⟩) id)
  cases rx
  obtain ⟨tb, LT, hn⟩ := looks_rty I IF ry t
  obtain ⟨mA, J, _⟩ := ins_get I.hok (hid_le _ _ e1)
  obtain ⟨od, J, _⟩ := J.look
  obtain ⟨m, hF⟩ := I.fr
  show wpAny (model X.prog X.w) X.A (richCompare .NotEq (.ref p) z) (EP X pins σ Q) X.xe s
  refine ZN.ne_K (tb := tb) (by have := hr.un; omega) hF I.ok.mod.kin J LT hn (NE _ hm) ok.hm hM.at_ hM.fn ?_
  have r2 : Vals [V.ref p, v] [Value.ref p, z] := .cons rfl (.cons ry .nil)
  have q2 : sp [.ref p, v] H (fun r H' => r = .bl (eqD (.ins x ks a) e) ∧ Ex S H H') E0 := hs S O H _ _ _ _ _ _ g.1 g.2 (.cons hx (.cons hy .nil)) hp (fun r d H' ex rr q => ⟨by subst q; exact rpB rr, ex⟩) (fun _ _ _ f => f.elim)
  refine wpAny_mono (run_at (A := X.A.in1) ⟨(hr.mono (Nat.succ_le_succ hk)).in1, rfl⟩ F hb I r2 q2) (fun w s' hw => ?_) fun _ _ e => e
  obtain ⟨zv, H', I', rz, ez, ex⟩ := hw
  subst ez
  cases rz
  exact ⟨_, rfl, .bl (!eqD (.ins x ks a) e), H', I', rfl, q H' ex⟩
theorem op_uNeX (T : ETabOk X c k tab) (NE : NTab X.K c tab) (hr : Room (k + 1) X.A) : OpR X (compareOp .NotEq) (uNeX X.K c tab) := (op_uNe hr.units).or (op_rNeX T NE hr)
end
def pNeX (tab : ETab) : PR2 := fun x y Q => pNe x y Q ∨ (NeAsk tab x y ∧ Q (.bl (!eqD x y)))
section
variable {N : Cn}
theorem sim_neX {tab : ETab} : SimR N (uNeX N.K N.c tab) (pNeX tab) := by
  intro w H0 B ow H σ ρ x y dx dy Q Q' r hx hy h k
  rcases h with h | ⟨h, q⟩
  · exact .inl (sim_ne w H0 B ow H σ ρ x y dx dy Q Q' r hx hy h k)
  · exact .inr ⟨w.S, hl w ow, dx, dy, ⟨r.occ, fun st L e => ⟨(r.dr st L e).1, r.stO st L e⟩⟩, hx, hy, h, fun H' ex => k _ _ H' (r.ex ex) ex (.bl _) q⟩
end
theorem p_neX {tab : ETab} {X : Str} {KS : List Str} {ok : List Da → List Da → Prop} {l : List Da} {e : Da} {Q : Da → Prop} (hm : (X, psEqOf X KS ok) ∈ tab) (h : EqAsk X KS ok l e) (ht : ∀ y ks m, e = .ins y ks m → y = X ∨ ∃ ps, (y, ps) ∈ tab) (k : Q (.bl (!eqD (.ins X KS l) e))) : pNeX tab (.ins X KS l) e Q := by
  refine .inr ⟨⟨X, KS, l, _, rfl, hm, ⟨l, e, rfl, h, rfl⟩, ?_⟩, k⟩
  rcases h.2 with ⟨m, rfl, _, _⟩ | ⟨y, ks, m, rfl, hs⟩ | ho
  · exact .inl ⟨X, KS, m, rfl, .inl rfl⟩
  · exact .inl ⟨y, ks, m, rfl, (ht y ks m rfl).imp id fun z => ⟨z, hs⟩⟩
  · exact .inr ho
/-! constant dicts: not in -/
def pKout (l : List (Str × DV)) (a : PEx) : PEx := fun ρ Q => a ρ fun x => ∃ z, x = .str z ∧ Q (.bl (!(l.lookup z).isSome))
def pKin (l : List (Str × DV)) (a : PEx) : PEx := fun ρ Q => a ρ fun x => ∃ z, x = .str z ∧ Q (.bl (l.lookup z).isSome)
theorem sim_kout {N : Cn} {l : List (Str × DV)} {a : TE} {p : PEx} (h : SimE N a p) : SimE N (tKout l a) (pKout l p) := by
  intro w H0 B aw ow H σ ρ Q Q' r q k
  refine h w H0 B aw ow H σ ρ _ _ r q fun x dx H1 r1 s1 h1 ⟨z, e, q1⟩ => ?_
  subst e
  cases h1
  exact ⟨z, rfl, k _ _ H1 r1 s1 (.bl _) q1⟩
theorem sim_kin {N : Cn} {l : List (Str × DV)} {a : TE} {p : PEx} (h : SimE N a p) : SimE N (tKin l a) (pKin l p) := by
  intro w H0 B aw ow H σ ρ Q Q' r q k
  refine h w H0 B aw ow H σ ρ _ _ r q fun x dx H1 r1 s1 h1 ⟨z, e, q1⟩ => ?_
  subst e
  cases h1
  exact ⟨z, rfl, k _ _ H1 r1 s1 (.bl _) q1⟩
theorem p_kout {l : List (Str × DV)} {a : PEx} {ρ : PEnv} {Q : Da → Prop} (k : a ρ fun x => ∃ z, x = .str z ∧ Q (.bl (!(l.lookup z).isSome))) : pKout l a ρ Q := k
theorem p_kin {l : List (Str × DV)} {a : PEx} {ρ : PEnv} {Q : Da → Prop} (k : a ρ fun x => ∃ z, x = .str z ∧ Q (.bl (l.lookup z).isSome)) : pKin l a ρ Q := k

/-! zip of two or three lists and tuples in any mix -/
/-- a list (false) or a tuple (true) -/
def SqK (K : PySem.W.Frag) (k : Bool) (H : Hp) (a : Addr) (xs : List V) : Prop := if k then SqT K H a xs else SqL K H a xs
def itK (k : Bool) (h : Heap) (i a : Addr) (n : Nat) : Prop := if k then h.IsTupleIter i a n else h.IsListIter i a n
def hasK (k : Bool) (h : Heap) (a : Addr) (items : Array Value) : Prop := if k then h.IsTuple a items else h.IsList a items
def objK (k : Bool) (a : Addr) : Obj := if k then { cls := .type "tuple_iterator", data := .fields #[.ref a, .int 0 0] } else { cls := .type "list_iterator", data := .fields #[.ref a, .int 0 0] }
theorem begins_K (k : Bool) (a : Addr) (items : Array Value) : Begins (.ref a) (objK k a) fun h => hasK k h a items := by
  cases k
  · exact begins_list a items
  · exact begins_tuple a items
theorem draws_K {prog : Program} {w : World} {A : Around} (hh : A.handled = none) (k : Bool) (it l : Addr) (hne : l ≠ it) (items : Array Value) : Draws prog w A it [it, l] items.size (fun i v => items[i]? = some v) (fun i h => itK k h it l i ∧ hasK k h l items) := by
  cases k
  · exact Draws.list hh it l hne items
  · exact Draws.tuple hh it l hne items
theorem has_of {X : Cx} {pins : List (Addr × Obj)} {σ : L2.St} {H : Hp} {s : Shared} (I : Inv X pins σ H s) (k : Bool) {a : Addr} {xs : List V} (e : SqK X.K k H a xs) : ∃ its, Vals xs its ∧ hasK k s.heap a its.toArray ∧ a < s.heap.objs.size := by
  cases k
  · obtain ⟨its, rv, p, _⟩ := I.list e
    exact ⟨its, rv, p.isList, p.lt⟩
  · obtain ⟨its, rv, p, _⟩ := I.tuple e
    have p' : s.heap.IsTuple a its.toArray := p
    obtain ⟨o, ho, _⟩ := id p'
    exact ⟨its, rv, p', Heap.lt_size ho⟩
theorem inj_K {X : Cx} {pins : List (Addr × Obj)} {σ : L2.St} {H : Hp} {s : Shared} (I : Inv X pins σ H s) (k : Bool) {a : Addr} {xs ys : List V} (e : SqK X.K k H a xs) (e2 : SqK X.K k H a ys) : xs = ys := by
  cases k
  · exact I.list_inj e e2
  · exact I.tuple_inj e e2
theorem itK.obj {k : Bool} {h : Heap} {i a : Addr} {n : Nat} (e : itK k h i a n) : ∃ o, h.get? i = some o ∧ ∀ v, o.data ≠ .cell v := by
  cases k
  all_goals
    obtain ⟨o, ho, _, hd⟩ := e
    exact ⟨o, ho, fun v q => by rw [hd] at q; cases q⟩
theorem itK.at {k : Bool} {h h' : Heap} {i a : Addr} {n : Nat} (e : itK k h i a n) (q : ∀ o, h.get? i = some o → h'.get? i = some o) : itK k h' i a n := by
  cases k
  all_goals
    obtain ⟨o, ho, hc, hd⟩ := e
    exact ⟨o, q o ho, hc, hd⟩
theorem itK.of {k : Bool} {h : Heap} {i a : Addr} (e : h.get? i = some (objK k a)) : itK k h i a 0 := by
  cases k
  · exact ⟨_, e, rfl, rfl⟩
  · exact ⟨_, e, rfl, rfl⟩
/-- the sequences as they stand at each turn, the items in new tuples -/
def Itz2 (K : PySem.W.Frag) (k1 k2 : Bool) (a b : Addr) : It :=
  ⟨fun i H => ∃ (xs ys : List V) (x y : V), SqK K k1 H a xs ∧ SqK K k2 H b ys ∧ xs[i]? = some x ∧ ys[i]? = some y,
    fun i H v H' => ∃ T x y, v = .ref T ∧ H T = none ∧ H' = upd H T (.tup [x, y]) ∧ (∀ xs, SqK K k1 H a xs → xs[i]? = some x) ∧ ∀ ys, SqK K k2 H b ys → ys[i]? = some y,
    fun i H => ∃ xs ys : List V, SqK K k1 H a xs ∧ SqK K k2 H b ys ∧ i = min xs.length ys.length⟩
def Itz3 (K : PySem.W.Frag) (k1 k2 k3 : Bool) (a b c : Addr) : It :=
  ⟨fun i H => ∃ (xs ys zs : List V) (x y z : V), SqK K k1 H a xs ∧ SqK K k2 H b ys ∧ SqK K k3 H c zs ∧ xs[i]? = some x ∧ ys[i]? = some y ∧ zs[i]? = some z,
    fun i H v H' => ∃ T x y z, v = .ref T ∧ H T = none ∧ H' = upd H T (.tup [x, y, z]) ∧ (∀ xs, SqK K k1 H a xs → xs[i]? = some x) ∧ (∀ ys, SqK K k2 H b ys → ys[i]? = some y) ∧ ∀ zs, SqK K k3 H c zs → zs[i]? = some z,
    fun i H => ∃ xs ys zs : List V, SqK K k1 H a xs ∧ SqK K k2 H b ys ∧ SqK K k3 H c zs ∧ i = min (min xs.length ys.length) zs.length⟩
theorem sub5 {α : Type} {a b c d e x : α} (h : x ∈ [a, c, d, e]) : x ∈ [a, b, c, d, e] := by
  simp only [List.mem_cons, List.not_mem_nil, or_false] at h ⊢
  rcases h with z | z | z | z <;> simp [z]
theorem sub6 {α : Type} {a b c d e f x : α} (h : x ∈ [a, c, d, e, f]) : x ∈ [a, b, c, d, e, f] := by
  simp only [List.mem_cons, List.not_mem_nil, or_false] at h ⊢
  rcases h with z | z | z | z | z <;> simp [z]
theorem mem_sz {h : Heap} {b : Addr} {o : Obj} (e : h.get? b = some o) : b < h.objs.size := Heap.lt_size e
theorem turn_z2 {P : Program} {w : World} {K : PySem.W.Frag} {elts : List Expr} {kk : Nat} {tpos : Pos} {k1 k2 : Bool} {a b : Addr} {N : Nat} (ha : a < N) (hb : b < N) :
    Turn P w K (.Tuple elts kk tpos) (Itz2 K k1 k2 a b) [N + 4, N + 2, N + 3, N, N + 1] (N + 4) (fun i h => IsZip h (N + 4) (N + 2) (N + 3) .none ∧ IsTupOf2 h (N + 2) (.ref N) (.ref (N + 1)) ∧ (∃ x y, IsTupOf2 h (N + 3) x y) ∧ itK k1 h N a i ∧ itK k2 h (N + 1) b i) where
  mem := by simp
  obj := fun i h st c hc => by
    obtain ⟨hz, hTI, ⟨x, y, hTO⟩, h1, h2⟩ := st
    have e' : c = N + 4 ∨ c = N + 2 ∨ c = N + 3 ∨ c = N ∨ c = N + 1 := by simpa using hc
    rcases e' with q | q | q | q | q
    · rw [q]; exact ⟨_, hz, fun v q => nomatch q⟩
    · rw [q]; exact ⟨_, hTI, fun v q => nomatch q⟩
    · rw [q]; exact ⟨_, hTO, fun v q => nomatch q⟩
    · rw [q]; exact h1.obj
    · rw [q]; exact h2.obj
  keep := fun i h h' st k => by
    obtain ⟨hz, hTI, ⟨x, y, hTO⟩, h1, h2⟩ := st
    exact ⟨k _ (by simp) _ hz, k _ (by simp) _ hTI, ⟨x, y, k _ (by simp) _ hTO⟩, h1.at fun o q => k _ (by simp) o q, h2.at fun o q => k _ (by simp) o q⟩
  item := by
    intro X hP hw hK hc i pins s σ H E I hf st hg
    subst hP hw hK
    obtain ⟨hz, hTI, hTO, h1, h2⟩ := st
    obtain ⟨xs, ys, x, y, hqx, hqy, hx, hy⟩ := hg
    obtain ⟨its, rv, p, _⟩ := has_of I k1 hqx
    obtain ⟨its2, rv2, p2, _⟩ := has_of I k2 hqy
    obtain ⟨u, hu, ru⟩ := rv.get hx
    obtain ⟨u2, hu2, ru2⟩ := rv2.get hy
    have hh : X.A.in1.handled = none := I.ok.hd hc
    have G := GoesN.zip2 (prog := X.prog) (w := X.w) (A := X.A) (elts := elts) (x1 := kk) (pos := tpos) (zip_sep2 (N := N) (fp1 := [a]) (fp2 := [b]) (by simpa using ha) (by simpa using hb)) (draws_K hh k1 N a (Nat.ne_of_lt ha) its.toArray) (draws_K hh k2 (N + 1) b (Nat.ne_of_lt (Nat.lt_succ_of_lt hb)) its2.toArray)
    have l1 : i < its.length := (List.getElem?_eq_some_iff.mp hu).1
    have l2 : i < its2.length := (List.getElem?_eq_some_iff.mp hu2).1
    refine G.goes i s _ E (by simp; omega) ⟨hz, hTI, hTO, ⟨h1, p⟩, ⟨h2, p2⟩⟩ fun v h' tk hY st' hk htk => ?_
    obtain ⟨T, x1, y1, rfl, hn, ex, ey, hT⟩ := hY
    obtain ⟨hz', hTI', hTO', ⟨h1', _⟩, ⟨h2', _⟩⟩ := st'
    have ex : x1 = u := by have : its.toArray[i]? = some x1 := ex; rw [List.getElem?_toArray, hu] at this; exact (Option.some.inj this).symm
    have ey : y1 = u2 := by have : its2.toArray[i]? = some y1 := ey; rw [List.getElem?_toArray, hu2] at this; exact (Option.some.inj this).symm
    subst ex ey
    obtain ⟨oT, hoT, hcT, nT, hdT⟩ := hT
    have new : ObjOk X.prog X.w (upd H T (.tup [x, y])) h' T (.tup [x, y]) := ⟨by show 2 ≤ sizeLine; decide, [x1, y1], .cons ru (.cons ru2 .nil), ⟨oT, hoT, hcT, nT, hdT⟩⟩
    have I1 : Inv X pins σ (upd H T (.tup [x, y])) { s with heap := h', toks := tk } :=
      I.turnedNew (t' := tk) (ch := [N + 4, N + 2, N + 3, N, N + 1]) (fun c o hb q => hk c o (fun q' => hb (sub5 q')) q) hf hn new
    refine ⟨.ref T, _, I1, rfl, ⟨T, x, y, rfl, I.hok.fresh hn, rfl, fun l hl => by rw [inj_K I k1 hl hqx]; exact hx, fun l hl => by rw [inj_K I k2 hl hqy]; exact hy⟩, ⟨hz', hTI', hTO', h1', h2'⟩, fun c hcm => ?_⟩
    have hlt : c < s.heap.objs.size := by
      have e' : c = N + 4 ∨ c = N + 2 ∨ c = N + 3 ∨ c = N ∨ c = N + 1 := by simpa using hcm
      obtain ⟨_, _, hTO⟩ := hTO
      have := mem_sz hz
      have := mem_sz hTI
      have := mem_sz hTO
      obtain ⟨_, q1, _⟩ := h1.obj
      obtain ⟨_, q2, _⟩ := h2.obj
      have := mem_sz q1
      have := mem_sz q2
      rcases e' with q | q | q | q | q <;> rw [q] <;> assumption
    rw [upd_ne (Nat.ne_of_lt (Nat.lt_of_lt_of_le hlt hn))]
    exact (hf c hcm).1
  done := by
    intro X hP hw hK hc i pins s σ H E I hf st hg
    subst hP hw hK
    obtain ⟨hz, hTI, hTO, h1, h2⟩ := st
    obtain ⟨xs, ys, hqx, hqy, hend⟩ := hg
    obtain ⟨its, rv, p, _⟩ := has_of I k1 hqx
    obtain ⟨its2, rv2, p2, _⟩ := has_of I k2 hqy
    have hh : X.A.in1.handled = none := I.ok.hd hc
    have G := GoesN.zip2 (prog := X.prog) (w := X.w) (A := X.A) (elts := elts) (x1 := kk) (pos := tpos) (zip_sep2 (N := N) (fp1 := [a]) (fp2 := [b]) (by simpa using ha) (by simpa using hb)) (draws_K hh k1 N a (Nat.ne_of_lt ha) its.toArray) (draws_K hh k2 (N + 1) b (Nat.ne_of_lt (Nat.lt_succ_of_lt hb)) its2.toArray)
    have e : i = min its.toArray.size its2.toArray.size := by rw [hend, rv.length, rv2.length]; simp
    rw [e] at h1 h2
    exact G.stops s _ E ⟨hz, hTI, hTO, ⟨h1, p⟩, ⟨h2, p2⟩⟩ fun h' tk hk htk => I.turnedL (t' := tk) (ch := [N + 4, N + 2, N + 3, N, N + 1]) (fun c o hb q => hk c o (fun q' => hb (sub5 q')) q) hf
  self := fun A i s Q E st h => wpAny_pyIter_zip st.1 h
theorem turn_z3 {P : Program} {w : World} {K : PySem.W.Frag} {elts : List Expr} {kk : Nat} {tpos : Pos} {k1 k2 k3 : Bool} {a b c : Addr} {N : Nat} (ha : a < N) (hb : b < N) (hc' : c < N) :
    Turn P w K (.Tuple elts kk tpos) (Itz3 K k1 k2 k3 a b c) [N + 5, N + 3, N + 4, N, N + 1, N + 2] (N + 5) (fun i h => IsZip h (N + 5) (N + 3) (N + 4) .none ∧ IsTupOf3 h (N + 3) (.ref N) (.ref (N + 1)) (.ref (N + 2)) ∧ (∃ x y z, IsTupOf3 h (N + 4) x y z) ∧ itK k1 h N a i ∧ itK k2 h (N + 1) b i ∧ itK k3 h (N + 2) c i) where
  mem := by simp
  obj := fun i h st c hc => by
    obtain ⟨hz, hTI, ⟨x, y, z, hTO⟩, h1, h2, h3⟩ := st
    have e' : c = N + 5 ∨ c = N + 3 ∨ c = N + 4 ∨ c = N ∨ c = N + 1 ∨ c = N + 2 := by simpa using hc
    rcases e' with q | q | q | q | q | q
    · rw [q]; exact ⟨_, hz, fun v q => nomatch q⟩
    · rw [q]; exact ⟨_, hTI, fun v q => nomatch q⟩
    · rw [q]; exact ⟨_, hTO, fun v q => nomatch q⟩
    · rw [q]; exact h1.obj
    · rw [q]; exact h2.obj
    · rw [q]; exact h3.obj
  keep := fun i h h' st k => by
    obtain ⟨hz, hTI, ⟨x, y, z, hTO⟩, h1, h2, h3⟩ := st
    exact ⟨k _ (by simp) _ hz, k _ (by simp) _ hTI, ⟨x, y, z, k _ (by simp) _ hTO⟩, h1.at fun o q => k _ (by simp) o q, h2.at fun o q => k _ (by simp) o q, h3.at fun o q => k _ (by simp) o q⟩
  item := by
    intro X hP hw hK hc i pins s σ H E I hf st hg
    subst hP hw hK
    obtain ⟨hz, hTI, hTO, h1, h2, h3⟩ := st
    obtain ⟨xs, ys, zs, x, y, z, hqx, hqy, hqz, hx, hy, hzz⟩ := hg
    obtain ⟨its, rv, p, _⟩ := has_of I k1 hqx
    obtain ⟨its2, rv2, p2, _⟩ := has_of I k2 hqy
    obtain ⟨its3, rv3, p3, _⟩ := has_of I k3 hqz
    obtain ⟨u, hu, ru⟩ := rv.get hx
    obtain ⟨u2, hu2, ru2⟩ := rv2.get hy
    obtain ⟨u3, hu3, ru3⟩ := rv3.get hzz
    have hh : X.A.in1.handled = none := I.ok.hd hc
    have G := GoesN.zip3 (prog := X.prog) (w := X.w) (A := X.A) (elts := elts) (x1 := kk) (pos := tpos) (zip_sep3 (N := N) (fp1 := [a]) (fp2 := [b]) (fp3 := [c]) (by simpa using ha) (by simpa using hb) (by simpa using hc')) (draws_K hh k1 N a (Nat.ne_of_lt ha) its.toArray) (draws_K hh k2 (N + 1) b (Nat.ne_of_lt (Nat.lt_succ_of_lt hb)) its2.toArray) (draws_K hh k3 (N + 2) c (Nat.ne_of_lt (Nat.lt_succ_of_lt (Nat.lt_succ_of_lt hc'))) its3.toArray)
    have l1 : i < its.length := (List.getElem?_eq_some_iff.mp hu).1
    have l2 : i < its2.length := (List.getElem?_eq_some_iff.mp hu2).1
    have l3 : i < its3.length := (List.getElem?_eq_some_iff.mp hu3).1
    refine G.goes i s _ E (by simp; omega) ⟨hz, hTI, hTO, ⟨h1, p⟩, ⟨h2, p2⟩, ⟨h3, p3⟩⟩ fun v h' tk hY st' hk htk => ?_
    obtain ⟨T, x1, y1, z1, rfl, hn, ex, ey, ez, hT⟩ := hY
    obtain ⟨hz', hTI', hTO', ⟨h1', _⟩, ⟨h2', _⟩, ⟨h3', _⟩⟩ := st'
    have ex : x1 = u := by have : its.toArray[i]? = some x1 := ex; rw [List.getElem?_toArray, hu] at this; exact (Option.some.inj this).symm
    have ey : y1 = u2 := by have : its2.toArray[i]? = some y1 := ey; rw [List.getElem?_toArray, hu2] at this; exact (Option.some.inj this).symm
    have ez : z1 = u3 := by have : its3.toArray[i]? = some z1 := ez; rw [List.getElem?_toArray, hu3] at this; exact (Option.some.inj this).symm
    subst ex ey ez
    obtain ⟨oT, hoT, hcT, nT, hdT⟩ := hT
    have new : ObjOk X.prog X.w (upd H T (.tup [x, y, z])) h' T (.tup [x, y, z]) := ⟨by show 3 ≤ sizeLine; decide, [x1, y1, z1], .cons ru (.cons ru2 (.cons ru3 .nil)), ⟨oT, hoT, hcT, nT, hdT⟩⟩
    have I1 : Inv X pins σ (upd H T (.tup [x, y, z])) { s with heap := h', toks := tk } :=
      I.turnedNew (t' := tk) (ch := [N + 5, N + 3, N + 4, N, N + 1, N + 2]) (fun c o hb q => hk c o (fun q' => hb (sub6 q')) q) hf hn new
    refine ⟨.ref T, _, I1, rfl, ⟨T, x, y, z, rfl, I.hok.fresh hn, rfl, fun l hl => by rw [inj_K I k1 hl hqx]; exact hx, fun l hl => by rw [inj_K I k2 hl hqy]; exact hy, fun l hl => by rw [inj_K I k3 hl hqz]; exact hzz⟩, ⟨hz', hTI', hTO', h1', h2', h3'⟩, fun c hcm => ?_⟩
    have hlt : c < s.heap.objs.size := by
      have e' : c = N + 5 ∨ c = N + 3 ∨ c = N + 4 ∨ c = N ∨ c = N + 1 ∨ c = N + 2 := by simpa using hcm
      obtain ⟨_, _, _, hTO⟩ := hTO
      have := mem_sz hz
      have := mem_sz hTI
      have := mem_sz hTO
      obtain ⟨_, q1, _⟩ := h1.obj
      obtain ⟨_, q2, _⟩ := h2.obj
      obtain ⟨_, q3, _⟩ := h3.obj
      have := mem_sz q1
      have := mem_sz q2
      have := mem_sz q3
      rcases e' with q | q | q | q | q | q <;> rw [q] <;> assumption
    rw [upd_ne (Nat.ne_of_lt (Nat.lt_of_lt_of_le hlt hn))]
    exact (hf c hcm).1
  done := by
    intro X hP hw hK hc i pins s σ H E I hf st hg
    subst hP hw hK
    obtain ⟨hz, hTI, hTO, h1, h2, h3⟩ := st
    obtain ⟨xs, ys, zs, hqx, hqy, hqz, hend⟩ := hg
    obtain ⟨its, rv, p, _⟩ := has_of I k1 hqx
    obtain ⟨its2, rv2, p2, _⟩ := has_of I k2 hqy
    obtain ⟨its3, rv3, p3, _⟩ := has_of I k3 hqz
    have hh : X.A.in1.handled = none := I.ok.hd hc
    have G := GoesN.zip3 (prog := X.prog) (w := X.w) (A := X.A) (elts := elts) (x1 := kk) (pos := tpos) (zip_sep3 (N := N) (fp1 := [a]) (fp2 := [b]) (fp3 := [c]) (by simpa using ha) (by simpa using hb) (by simpa using hc')) (draws_K hh k1 N a (Nat.ne_of_lt ha) its.toArray) (draws_K hh k2 (N + 1) b (Nat.ne_of_lt (Nat.lt_succ_of_lt hb)) its2.toArray) (draws_K hh k3 (N + 2) c (Nat.ne_of_lt (Nat.lt_succ_of_lt (Nat.lt_succ_of_lt hc'))) its3.toArray)
    have e : i = min (min its.toArray.size its2.toArray.size) its3.toArray.size := by rw [hend, rv.length, rv2.length, rv3.length]; simp
    rw [e] at h1 h2 h3
    exact G.stops s _ E ⟨hz, hTI, hTO, ⟨h1, p⟩, ⟨h2, p2⟩, ⟨h3, p3⟩⟩ fun h' tk hk htk => I.turnedL (t' := tk) (ch := [N + 5, N + 3, N + 4, N, N + 1, N + 2]) (fun c o hb q => hk c o (fun q' => hb (sub6 q')) q) hf
  self := fun A i s Q E st h => wpAny_pyIter_zip st.1 h
def iZip2 (K : PySem.W.Frag) (ta : TA) : TI := fun σ H R => ta σ H fun vs H1 => ∃ a b k1 k2 xs ys, vs = [.ref a, .ref b] ∧ SqK K k1 H1 a xs ∧ SqK K k2 H1 b ys ∧ R (Itz2 K k1 k2 a b) H1
def iZip3 (K : PySem.W.Frag) (ta : TA) : TI := fun σ H R => ta σ H fun vs H1 => ∃ a b c k1 k2 k3 xs ys zs, vs = [.ref a, .ref b, .ref c] ∧ SqK K k1 H1 a xs ∧ SqK K k2 H1 b ys ∧ SqK K k3 H1 c zs ∧ R (Itz3 K k1 k2 k3 a b c) H1
section
variable {X : Cx} {e e2 e3 : Expr} {ta : TA} {p pos tpos : Pos} {elts : List Expr} {kk : Nat}
theorem pi_zip2 (hg : Gl X "zip") (hm : X.mg "zip" = none) (ha : PA X [e, e2] ta)
    (hs : starEach [e, e2] X.env = (false, eval e X.env) :: starEach [e2] X.env := by rfl) (hpl : (backTo pos (starEach [e2] X.env)).any (·.1) = false := by rfl) :
    PI X (.Tuple elts kk tpos) (.Call (.Name "zip" p) [e, e2] [] pos) (iZip2 X.K ta) := by
  refine ⟨fun pins s σ H R I h => ?_⟩
  refine PyProof.Rows.Call_ (ld_blt I hg hm PyProof.Rows.boot_zip (PyProof.Rows.callWith_type1 (thn (ha.run pos pins s σ H _ I h) fun us s1 ⟨vs, H1, I1, r1, q1⟩ => ?_) hs hpl))
  obtain ⟨a, b, k1, k2, xs, ys, ex, hqx, hqy, q⟩ := q1
  subst ex
  cases r1 with
  | cons r rr =>
    cases rr with
    | cons r' rr =>
      cases rr
      cases r
      cases r'
      obtain ⟨its, rv, p1, la⟩ := has_of I1 k1 hqx
      obtain ⟨its2, rv2, p2, lb⟩ := has_of I1 k2 hqy
      refine zip_begins2 (begins_K k1 a its.toArray) (begins_K k2 b its2.toArray) p1 p2 fun h' hz hTI hTO h1 h2 hsz hk => wpAny_pyIter_zip hz ?_
      have I2 : Inv X pins σ H1 { s1 with heap := h' } := I1.kept (t' := s1.toks) hk
      refine ⟨s1.heap.objs.size + 4, [s1.heap.objs.size + 4, s1.heap.objs.size + 2, s1.heap.objs.size + 3, s1.heap.objs.size, s1.heap.objs.size + 1], _, _, H1, rfl, I2, turn_z2 la lb, ⟨hz, hTI, ⟨_, _, hTO⟩, .of h1, .of h2⟩, fun c hcm => ?_, q⟩
      have hle : s1.heap.objs.size ≤ c := by
        have e' : c = s1.heap.objs.size + 4 ∨ c = s1.heap.objs.size + 2 ∨ c = s1.heap.objs.size + 3 ∨ c = s1.heap.objs.size ∨ c = s1.heap.objs.size + 1 := by simpa using hcm
        rcases e' with z | z | z | z | z <;> rw [z] <;> first | exact Nat.le_refl _ | exact Nat.le_add_right _ _
      exact I1.fpOk hle (I1.hok.fresh hle)
theorem pi_zip3 (hg : Gl X "zip") (hm : X.mg "zip" = none) (ha : PA X [e, e2, e3] ta)
    (hs : starEach [e, e2, e3] X.env = (false, eval e X.env) :: starEach [e2, e3] X.env := by rfl) (hpl : (backTo pos (starEach [e2, e3] X.env)).any (·.1) = false := by rfl) :
    PI X (.Tuple elts kk tpos) (.Call (.Name "zip" p) [e, e2, e3] [] pos) (iZip3 X.K ta) := by
  refine ⟨fun pins s σ H R I h => ?_⟩
  refine PyProof.Rows.Call_ (ld_blt I hg hm PyProof.Rows.boot_zip (PyProof.Rows.callWith_type1 (thn (ha.run pos pins s σ H _ I h) fun us s1 ⟨vs, H1, I1, r1, q1⟩ => ?_) hs hpl))
  obtain ⟨a, b, c, k1, k2, k3, xs, ys, zs, ex, hqx, hqy, hqz, q⟩ := q1
  subst ex
  cases r1 with
  | cons r rr =>
    cases rr with
    | cons r' rr =>
      cases rr with
      | cons r'' rr =>
        cases rr
        cases r
        cases r'
        cases r''
        obtain ⟨its, rv, p1, la⟩ := has_of I1 k1 hqx
        obtain ⟨its2, rv2, p2, lb⟩ := has_of I1 k2 hqy
        obtain ⟨its3, rv3, p3, lc⟩ := has_of I1 k3 hqz
        refine zip_begins3 (begins_K k1 a its.toArray) (begins_K k2 b its2.toArray) (begins_K k3 c its3.toArray) p1 p2 p3 fun h' hz hTI hTO h1 h2 h3 hsz hk => wpAny_pyIter_zip hz ?_
        have I2 : Inv X pins σ H1 { s1 with heap := h' } := I1.kept (t' := s1.toks) hk
        refine ⟨s1.heap.objs.size + 5, [s1.heap.objs.size + 5, s1.heap.objs.size + 3, s1.heap.objs.size + 4, s1.heap.objs.size, s1.heap.objs.size + 1, s1.heap.objs.size + 2], _, _, H1, rfl, I2, turn_z3 la lb lc, ⟨hz, hTI, ⟨_, _, _, hTO⟩, .of h1, .of h2, .of h3⟩, fun c hcm => ?_, q⟩
        have hle : s1.heap.objs.size ≤ c := by
          have e' : c = s1.heap.objs.size + 5 ∨ c = s1.heap.objs.size + 3 ∨ c = s1.heap.objs.size + 4 ∨ c = s1.heap.objs.size ∨ c = s1.heap.objs.size + 1 ∨ c = s1.heap.objs.size + 2 := by simpa using hcm
          rcases e' with z | z | z | z | z | z <;> rw [z] <;> first | exact Nat.le_refl _ | exact Nat.le_add_right _ _
        exact I1.fpOk hle (I1.hok.fresh hle)
end

/-! ### one of several readings; what is never reached; zip in any mix -/
abbrev iD (xs : List Int) : List Da := xs.map Da.int
theorem takeS {α : Type} {l : List α} {i : Nat} {a : α} (h : l[i]? = some a) : l.take (i + 1) = l.take i ++ [a] := by rw [List.take_add_one, h]; rfl
theorem mapD_get {α : Type} {l : List α} {f : α → Da} {i : Nat} {x : Da} (h : (l.map f)[i]? = some x) : ∃ a, l[i]? = some a ∧ x = f a := by
  rw [List.getElem?_map] at h
  cases e : l[i]? with
  | none => rw [e] at h; cases h
  | some a => rw [e] at h; cases h; exact ⟨a, rfl, rfl⟩
def tAny (a b : TE) : TE := fun σ H Q => a σ H Q ∨ b σ H Q
theorem pe_any {X : Cx} {e : Expr} {a b : TE} (ha : PE X e a) (hb : PE X e b) : PE X e (tAny a b) := ⟨fun pins s σ H Q I q => q.elim (fun q => ha.run pins s σ H Q I q) fun q => hb.run pins s σ H Q I q⟩
def tNeverE : TE := fun _ _ _ => False
theorem pe_neverE {X : Cx} {e : Expr} : PE X e tNeverE := ⟨fun _ _ _ _ _ _ f => f.elim⟩
def pAny (a b : PEx) : PEx := fun ρ Q => a ρ Q ∨ b ρ Q
def pNeverE : PEx := fun _ _ => False
def pNever : PSt := fun _ _ => False
section
variable {N : Cn}
theorem sim_any {t u : TE} {p q : PEx} (h : SimE N t p) (h2 : SimE N u q) : SimE N (tAny t u) (pAny p q) := fun w H0 B aw ow H σ ρ Q Q' r z k => z.elim (fun z => .inl (h w H0 B aw ow H σ ρ Q Q' r z k)) fun z => .inr (h2 w H0 B aw ow H σ ρ Q Q' r z k)
theorem sim_neverE : SimE N tNeverE pNeverE := fun w H0 B aw ow H σ ρ Q Q' r z k => z.elim
theorem sim_never : SimS N tNever pNever := fun w H0 B aw ow H σ ρ D D' a r z => z.elim
end
theorem p_anyL {a b : PEx} {ρ : PEnv} {Q : Da → Prop} (h : a ρ Q) : pAny a b ρ Q := .inl h
theorem p_anyR {a b : PEx} {ρ : PEnv} {Q : Da → Prop} (h : b ρ Q) : pAny a b ρ Q := .inr h
theorem seqL {l : List Da} : seqD (.lst l) l := .inl rfl
theorem seqT {l : List Da} : seqD (.tup l) l := .inr rfl
theorem eqDs_rf {l : List Da} (h : l.all flD = true) : eqDs l l = true := eqDs_refl fun d hd => by
  have f := List.all_eq_true.mp h d hd
  cases d <;> first | (cases f; done) | (simp only [eqD, eq0]; try simp)
theorem p_neSame {l : List Da} {Q : Da → Prop} (h : l.all flD = true) (k : Q (.bl false)) : pNe (.lst l) (.lst l) Q := ⟨1, by decide, Cq.lst (Cq.flats h h), by rw [show eqD (.lst l) (.lst l) = true by simp only [eqD]; exact eqDs_rf h]; exact k⟩
def piZip2 (p : PAr) : PIt := fun ρ Q => p ρ fun ds => ∃ x y a b, ds = [x, y] ∧ seqD x a ∧ seqD y b ∧ Q (zipD a b)
def zip3D (a b c : List Da) : List Da := (a.zip (b.zip c)).map fun z => .tup [z.1, z.2.1, z.2.2]
def piZip3 (p : PAr) : PIt := fun ρ Q => p ρ fun ds => ∃ x y z a b c, ds = [x, y, z] ∧ seqD x a ∧ seqD y b ∧ seqD z c ∧ Q (zip3D a b c)
theorem rpSq {K : PySem.W.Frag} {c : CEnv} {S : Option Addr} {G : Hp} {v : V} {d : Da} {l : List Da} (h : Rp K c S G v d) (e : seqD d l) : ∃ a k xs, v = .ref a ∧ (∀ G', Same G G' → SqK K k G' a xs) ∧ RpA K c S G xs l := by
  rcases e with rfl | rfl
  · obtain ⟨a, xs, rfl, e, r⟩ := rpL h
    exact ⟨a, false, xs, rfl, fun G' s => SqL.of (s _ _ e), r⟩
  · obtain ⟨a, xs, rfl, e, r⟩ := rpT h
    exact ⟨a, true, xs, rfl, fun G' s => Same.sqT s e, r⟩
theorem rps3 {K : PySem.W.Frag} {c : CEnv} {S : Option Addr} {G : Hp} {vs : List V} {d e f : Da} (h : RpA K c S G vs [d, e, f]) : ∃ v u w, vs = [v, u, w] ∧ Rp K c S G v d ∧ Rp K c S G u e ∧ Rp K c S G w f := by
  obtain ⟨v, ws, rfl, a, h⟩ := rpsC h
  obtain ⟨u, ws, rfl, b, h⟩ := rpsC h
  obtain ⟨w, ws, rfl, c, h⟩ := rpsC h
  rw [rps0 h]
  exact ⟨v, u, w, rfl, a, b, c⟩
section
variable {N : Cn}
theorem sim_iZip2 {t : TA} {p : PAr} (h : SimA N t p) : SimI N (iZip2 N.K t) (piZip2 p) := by
  intro w H0 B aw ow H σ ρ R Q' r q k
  refine h w H0 B aw ow H σ ρ _ _ r q fun vs ds H1 r1 x1 h1 q1 => ?_
  obtain ⟨x, y, a, b, rfl, sx, sy, q1⟩ := q1
  obtain ⟨v, u, rfl, ha, hb⟩ := rps2 h1
  obtain ⟨pa, k1, xs, rfl, ea, ra⟩ := rpSq ha sx
  obtain ⟨pb, k2, ys, rfl, eb, rb⟩ := rpSq hb sy
  have la := rpsLen ra
  have lb := rpsLen rb
  refine ⟨pa, pb, k1, k2, xs, ys, rfl, ea _ hid_le, eb _ hid_le, k _ _ H1 r1 x1 ⟨fun i H h s => ⟨xs, ys, ea _ s, eb _ s, by rw [zipD_len] at h; omega⟩, fun i H h s => ?_, fun i H x H' d hd s y => ?_⟩ q1⟩
  · rw [zipD_len] at h
    have h1 : i < xs.length := by omega
    have h2 : i < ys.length := by omega
    exact ⟨xs, ys, xs[i], ys[i], ea _ s, eb _ s, by simp [h1], by simp [h2]⟩
  · obtain ⟨T, x1, y1, rfl, hT, rfl, f1, f2⟩ := y
    obtain ⟨d1, d2, e1, e2, rfl⟩ := zipD_get hd
    obtain ⟨v, hv, rv⟩ := rpsGet ra e1
    obtain ⟨u, hu, ru⟩ := rpsGet rb e2
    have z1 := f1 xs (ea _ s)
    have z2 := f2 ys (eb _ s)
    rw [hv] at z1; rw [hu] at z2
    cases z1; cases z2
    exact ⟨Same.new hT (Same.refl _), fun O oc t => rp_pair hT oc (rpS t rv) (rpS t ru)⟩
theorem zip3D_get {a b c : List Da} {i : Nat} {d : Da} (h : (zip3D a b c)[i]? = some d) : ∃ x y z, a[i]? = some x ∧ b[i]? = some y ∧ c[i]? = some z ∧ d = .tup [x, y, z] := by
  unfold zip3D at h
  rw [List.getElem?_map] at h
  cases e : (a.zip (b.zip c))[i]? with
  | none => rw [e] at h; cases h
  | some z =>
    rw [e] at h
    obtain ⟨h1, h2⟩ := List.getElem?_zip_eq_some.mp e
    obtain ⟨h2, h3⟩ := List.getElem?_zip_eq_some.mp h2
    exact ⟨z.1, z.2.1, z.2.2, h1, h2, h3, (Option.some.inj h).symm⟩
theorem zip3D_len {a b c : List Da} : (zip3D a b c).length = min a.length (min b.length c.length) := by unfold zip3D; rw [List.length_map, List.length_zip, List.length_zip]
theorem sim_iZip3 {t : TA} {p : PAr} (h : SimA N t p) : SimI N (iZip3 N.K t) (piZip3 p) := by
  intro w H0 B aw ow H σ ρ R Q' r q k
  refine h w H0 B aw ow H σ ρ _ _ r q fun vs ds H1 r1 x1 h1 q1 => ?_
  obtain ⟨x, y, z, a, b, c, rfl, sx, sy, sz, q1⟩ := q1
  obtain ⟨v, u, t, rfl, ha, hb, hc⟩ := rps3 h1
  obtain ⟨pa, k1, xs, rfl, ea, ra⟩ := rpSq ha sx
  obtain ⟨pb, k2, ys, rfl, eb, rb⟩ := rpSq hb sy
  obtain ⟨pc, k3, zs, rfl, ec, rc⟩ := rpSq hc sz
  have la := rpsLen ra
  have lb := rpsLen rb
  have lc := rpsLen rc
  refine ⟨pa, pb, pc, k1, k2, k3, xs, ys, zs, rfl, ea _ hid_le, eb _ hid_le, ec _ hid_le, k _ _ H1 r1 x1 ⟨fun i H h s => ⟨xs, ys, zs, ea _ s, eb _ s, ec _ s, by rw [zip3D_len] at h; omega⟩, fun i H h s => ?_, fun i H x H' d hd s y => ?_⟩ q1⟩
  · rw [zip3D_len] at h
    have h1 : i < xs.length := by omega
    have h2 : i < ys.length := by omega
    have h3 : i < zs.length := by omega
    exact ⟨xs, ys, zs, xs[i], ys[i], zs[i], ea _ s, eb _ s, ec _ s, by simp [h1], by simp [h2], by simp [h3]⟩
  · obtain ⟨T, x1, y1, z1, rfl, hT, rfl, f1, f2, f3⟩ := y
    obtain ⟨d1, d2, d3, e1, e2, e3, rfl⟩ := zip3D_get hd
    obtain ⟨v, hv, rv⟩ := rpsGet ra e1
    obtain ⟨u, hu, ru⟩ := rpsGet rb e2
    obtain ⟨t, ht, rt⟩ := rpsGet rc e3
    have z1 := f1 xs (ea _ s)
    have z2 := f2 ys (eb _ s)
    have z3 := f3 zs (ec _ s)
    rw [hv] at z1; rw [hu] at z2; rw [ht] at z3
    cases z1; cases z2; cases z3
    exact ⟨Same.new hT (Same.refl _), fun O oc t => .tup (SqT.of (hid_lk (oc.no hT) upd_same)) (.cons (rpS (hid_new hT) (rpS t rv)) (.cons (rpS (hid_new hT) (rpS t ru)) (.cons (rpS (hid_new hT) (rpS t rt)) .nil)))⟩
end
theorem p_izip2 {t : PAr} {ρ : PEnv} {QA : List Da → Prop} (k : t ρ fun ds => ∃ x y a b, ds = [x, y] ∧ seqD x a ∧ seqD y b ∧ QA (zipD a b)) : piZip2 t ρ QA := k
theorem p_zip2 {x y : Da} {a b : List Da} {P : List Da → List Da → Prop} (h1 : seqD x a) (h2 : seqD y b) (k : P a b) : ∃ x' y' a b, [x, y] = [x', y'] ∧ seqD x' a ∧ seqD y' b ∧ P a b := ⟨x, y, a, b, rfl, h1, h2, k⟩
theorem p_izip3 {t : PAr} {ρ : PEnv} {QA : List Da → Prop} (k : t ρ fun ds => ∃ x y z a b c, ds = [x, y, z] ∧ seqD x a ∧ seqD y b ∧ seqD z c ∧ QA (zip3D a b c)) : piZip3 t ρ QA := k
theorem p_zip3 {x y z : Da} {a b c : List Da} {P : List Da → List Da → List Da → Prop} (h1 : seqD x a) (h2 : seqD y b) (h3 : seqD z c) (k : P a b c) : ∃ x' y' z' a b c, [x, y, z] = [x', y', z'] ∧ seqD x' a ∧ seqD y' b ∧ seqD z' c ∧ P a b c := ⟨x, y, z, a, b, c, rfl, h1, h2, h3, k⟩

/-! C.m(self, ..): a def of a base class, called through the class; isinstance with a tuple of classes; a class without __init__ -/
structure Sup (P : Program) (w : World) (K : PySem.W.Frag) (mg : Str → Option Value) (base : Heap) (k : Nat) (C : Addr) (m : Str) (ps : List Str) (sp : Sp) : Prop where
  rd : PySem.W.readsIn K C (.type "type") = true
  ga : PySem.W.specialIn K (.ref C) "__getattribute__" = some (some (.builtin "type.__getattribute__"))
  ex : ∃ (f : Addr) (fd : FuncData), PySem.W.findCls K (.ref C) (.type "type") m = some (.val (.ref f)) ∧ PySem.W.keepIn K (.ref f) = true ∧ Binds K fd ps [] ∧ FnOk P w K mg base CX0 k f fd ps sp
section
variable {X : Cx} {c : CEnv} {k : Nat} {x m : Str} {ps gs : List Str} {sp : Sp} {p pos apos : Pos} {e : Expr} {es : List Expr} {t : TA} {pl : Sem Bool}
theorem z_sup (CM : X.mg x = some (.ref (c.cls x))) (S : Sup X.prog X.w X.K X.mg X.base k (c.cls x) m ps sp) (hr : Room k X.A) (hg : Gl X x) (ha : PA X (e :: es) t) (hdb : (x == ("__debug__" : Str)) = false := by decide)
    (he : starEach (e :: es) X.env = (false, eval e X.env) :: starEach es X.env := by rfl) (hpl : (backTo pos (starEach es X.env)).any (·.1) = false := by rfl)
    (ht : eval (.Call (.Attribute (.Name x p) m apos) (e :: es) [] pos) X.env = (do
      let ov ← eval (.Name x p) X.env
      standAt apos.atName
      let (f, first) ← holding [ov] (getMethod ov m pl)
      callWith pos f first (backTo pos (starEach (e :: es) X.env)) (backToKw pos (keywordEach [] X.env))) := by rfl) : PE X (.Call (.Attribute (.Name x p) m apos) (e :: es) [] pos) (tCal sp t) := by
  obtain ⟨f, fd, hf, hk, hb, F⟩ := S.ex
  rw [← nil_sp]
  refine ⟨fun pins s σ H Q I h => ?_⟩
  have hn : PE X (.Name x p) (tC (.ref (c.cls x))) := pe_glob hg CM rfl hdb
  refine PySem.W.methodCall_KW (pl := pl) (thn (hn.run pins s σ H (fun v H1 => v = .ref (c.cls x) ∧ tCall sp [] E0 t σ H1 Q) I ⟨rfl, h⟩) fun u s1 ⟨v, H1, I1, rx, ex, q⟩ => ?_) ht
  subst ex
  obtain rfl : u = Value.ref (c.cls x) := rx
  refine PySem.W.method_cls I1.kIn S.ga ?_
  refine PySem.W.cls_value I1.kIn S.rd hf rfl ?_
  refine PySem.W.callWith_K (h₀ := X.base) I1.ok.mod.kin hk (thn (ha.run pos pins _ σ H1 _ (I1.tok _) q) fun us s1 ⟨vs, H2, I2, r, q2⟩ => ⟨I2.kIn, ?_⟩) he hpl
  exact run_fn F hr hb .nil pass0 I2 r q2
/-! ### a class without __init__ -/
structure Mk0 (K : PySem.W.Frag) (C : Addr) : Prop where
  makes : PySem.W.makesIn K C = true
  init : PySem.W.findIn K (.ref C) "__init__" = some (some (.builtin "object.__init__"))
  top : PySem.W.mroIn K C (.type "object") = some true
  kp : PySem.W.keepIn K (.ref C) = true
def tMk0 (K : PySem.W.Frag) (c : CEnv) (x : Str) : TE := fun σ H Q => ClsOk K c x [] → ∀ p dx, H p = none → H dx = none → dx ≠ p → Q (.ref p) (upd (upd H dx (.own p)) p (.ins (c.cls x) dx []))
theorem z_mk0 (CF : ClsF X.K X.mg c x []) (M : Mk0 X.K (c.cls x)) (hg : Gl X x) (hdb : (x == ("__debug__" : Str)) = false := by decide) : PE X (.Call (.Name x p) [] [] pos) (tMk0 X.K c x) := by
  refine ⟨fun pins s σ H Q I h => ?_⟩
  refine wpAny_Call_Name_kw (ld_glob I hg CF.mg ?_ hdb)
  refine PySem.W.callWith_K0 I.kIn M.kp ?_
  have hq := h CF.ok (s.heap.objs.size + 1) s.heap.objs.size (I.hok.fresh (Nat.le_succ _)) (I.hok.fresh (Nat.le_refl _)) (Nat.ne_of_lt (Nat.lt_succ_self _))
  have I2 := Inv.made (C := c.cls x) I
  refine wpAny_call (make_map0 I.kIn M.makes M.init (fun self => PySem.W.Looks.of_pure (PySem.W.oi_bind _)) ?_)
  have t2 : PySem.W.Looks (model X.prog X.w) ((s.heap.push PySem.W.emptyDict).push (PySem.W.instObj (c.cls x) s.heap.objs.size)) (isInstance (.ref (s.heap.objs.size + 1)) (.type "object")) true := by
    refine PySem.W.Looks.andThen (NwA.type_at (C := c.cls x) (o := PySem.W.instObj (c.cls x) s.heap.objs.size) ?_ rfl) (PySem.W.looks_mroIn I2.kIn M.top)
    have := Heap.get?_push_size (s.heap.push PySem.W.emptyDict) (o := PySem.W.instObj (c.cls x) s.heap.objs.size) rfl
    rwa [Heap.size_push] at this
  refine codeAny_call_builtin PySem.W.oi_plain PySem.W.entry_oi (@PySem.W.check_slot _ _ _ _ "object.__init__" "object" "__init__" _ [] [] _ PySem.W.oi_kind PySem.W.oi_split t2 (NwA.oi_args_any _ [] []) ?_)
  rw [PySem.W.oi_run]
  exact wpAny_pure ⟨rfl, ⟨V.ref (s.heap.objs.size + 1), _, I2, rfl, hq⟩⟩
end
/-! ### isinstance(x, (C, D, ..)) -/
def uIsiT (K : PySem.W.Frag) : List V → Hp → VK → Prop := rIsiT K
theorem call_uIsiT {X : Cx} : CallR X (.builtin "isinstance") (uIsiT X.K) := call_isiT

/-! comparisons of flags -/
def bI (b : Bool) : Int := if b = true then 1 else 0
def uLtB (K : PySem.W.Frag) : R2 := fun x y H Q => match x, y with
  | .bl i, .bl j => Q (.bl (decide (bI i < bI j))) H
  | x, y => uLt K x y H Q
def uLeB : R2 := fun x y H Q => match x, y with
  | .bl i, .bl j => Q (.bl (decide (bI i ≤ bI j))) H
  | x, y => uLe x y H Q
section
variable {X : Cx}
theorem op_uLtB (hu : X.A.units + 64 < cLine) : OpR X (compareOp .Lt) (uLtB X.K) := by
  intro pins s σ H x y v u Q I rx ry h
  by_cases e : ∃ i j, x = .bl i ∧ y = .bl j
  · obtain ⟨i, j, rfl, rfl⟩ := e
    cases rx; cases ry
    exact PyProof.Rows.lt_bool (fin_bl I h rfl)
  · refine op_uLt hu pins s σ H x y v u Q I rx ry ?_
    unfold uLtB at h
    split at h
    · exact absurd ⟨_, _, rfl, rfl⟩ e
    · exact h
theorem op_uLeB : OpR X (compareOp .LtE) uLeB := by
  intro pins s σ H x y v u Q I rx ry h
  by_cases e : ∃ i j, x = .bl i ∧ y = .bl j
  · obtain ⟨i, j, rfl, rfl⟩ := e
    cases rx; cases ry
    exact PyProof.Rows.le_bool (fin_bl I h rfl)
  · refine op_uLe pins s σ H x y v u Q I rx ry ?_
    unfold uLeB at h
    split at h
    · exact absurd ⟨_, _, rfl, rfl⟩ e
    · exact h
end

/-! isinstance with a tuple of own classes; a base class's __init__ called through the class; classes without __init__: readings without a heap -/
def clsA (K : PySem.W.Frag) (c : CEnv) : List Str → TA
  | [] => tNil
  | x :: xs => tCons (tCls K c x) (clsA K c xs)
theorem clsA_go {K : PySem.W.Frag} {c : CEnv} {σ : L2.St} {H : Hp} : ∀ {xs : List Str} {R : List V → Hp → Prop}, ((∀ x ∈ xs, IsF K c x) → R (xs.map fun x => .ref (c.cls x)) H) → clsA K c xs σ H R
  | [], R, h => h fun _ hx => by cases hx
  | x :: xs, R, h => fun I => clsA_go (xs := xs) fun J => h fun y hy => by
    rcases List.mem_cons.mp hy with rfl | hy
    · exact I
    · exact J y hy
def isM1 (xs : List Str) (d : Da) (Q : Da → Prop) : Prop := match d with
  | .ins y _ _ => Q (.bl (xs.any fun x => SUB y x))
  | d => okTy d = true ∧ Q (.bl false)
def pIsM (xs : List Str) (a : PEx) : PEx := fun ρ Q => a ρ fun d => isM1 xs d Q
theorem clsV_map {c : CEnv} : ∀ xs : List Str, Paired ClsV (xs.map fun x => V.ref (c.cls x)) (xs.map fun x => Value.ref (c.cls x))
  | [] => .nil
  | x :: xs => .cons (.own _) (clsV_map xs)
theorem kitAny_false {K : PySem.W.Frag} {c : CEnv} {t : Value} : ∀ {xs : List Str}, (∀ x ∈ xs, PySem.W.kitOne K t (.ref (c.cls x)) = some false) → PySem.W.kitAny K t (xs.map fun x => Value.ref (c.cls x)) = some false
  | [], _ => rfl
  | x :: xs, h => by
    rw [List.map_cons]
    unfold PySem.W.kitAny
    rw [h x (List.mem_cons_self ..)]
    exact kitAny_false fun y hy => h y (List.mem_cons_of_mem _ hy)
theorem kitAny_any {K : PySem.W.Frag} {c : CEnv} {t : Value} {f : Str → Bool} : ∀ {xs : List Str}, (∀ x ∈ xs, PySem.W.kitOne K t (.ref (c.cls x)) = some (f x)) → PySem.W.kitAny K t (xs.map fun x => Value.ref (c.cls x)) = some (xs.any f)
  | [], _ => rfl
  | x :: xs, h => by
    rw [List.map_cons, List.any_cons]
    unfold PySem.W.kitAny
    rw [h x (List.mem_cons_self ..)]
    cases f x
    · exact kitAny_any fun y hy => h y (List.mem_cons_of_mem _ hy)
    · rfl
section
variable {N : Cn}
theorem sim_isM {xs : List Str} {t : TE} {p : PEx} (hx : xs.length ≤ 100) (h : SimE N t p) : SimE N (tCB (uIsiT N.K) (tCons t (tCons (tTup (clsA N.K N.c xs)) tNil))) (pIsM xs p) := by
  intro w H0 B aw ow H σ ρ Q Q' r z k
  refine h w H0 B aw ow H σ ρ _ _ r z fun v d H1 r1 x1 h1 q1 => ?_
  refine clsA_go fun I => ⟨by rw [List.length_map]; exact Nat.le_trans hx (by decide), fun p hp => ?_⟩
  have s2 : Same H1 (upd H1 p (.tup (xs.map fun x => .ref (N.c.cls x)))) := Same.new hp (Same.refl H1)
  have x2 : Ex w.S H1 (upd H1 p (.tup (xs.map fun x => .ref (N.c.cls x)))) := Ex.of s2 fun st L q => (r1.dr st L q).1
  cases d with
  | ins y ks l =>
    obtain ⟨a, dx, ys, rfl, ok, e, _, _⟩ := rpO h1
    have e2 := s2 a _ (hid_le _ _ e)
    exact ⟨_, p, _, _, _, _, rfl, upd_same, clsV_map xs, TyX.base (TyOf.ins e2 ok.cl ok.ha ok.hn ok.htk ok.hm), kitAny_any (f := fun x => SUB y x) fun x hx => ok.sub x (I x hx).has, k _ _ _ (r1.ex x2) (Ex.trans x1 x2) (.bl _) q1⟩
  | _ =>
    refine ⟨_, p, _, _, _, false, rfl, upd_same, clsV_map xs, tyX_of (rpS (fun a o q => s2 a o (hid_le a o q)) h1) q1.1, kitAny_false fun x hx => (I x hx).ki _ ?_, k _ _ _ (r1.ex x2) (Ex.trans x1 x2) (.bl _) q1.2⟩
    first | (cases q1.1; done) | (with_unfolding_all (show List.contains _ "NoneType" = true); decide) | (with_unfolding_all (show List.contains _ "bool" = true); decide) | (with_unfolding_all (show List.contains _ "int" = true); decide) | (with_unfolding_all (show List.contains _ "str" = true); decide) | (with_unfolding_all (show List.contains _ "tuple" = true); decide) | (with_unfolding_all (show List.contains _ "list" = true); decide)
/-- C() -/
def pMk0 (x : Str) : PEx := fun _ Q => Q (.ins x [] [])
theorem sim_mk0 {x : Str} : SimE N (tMk0 N.K N.c x) (pMk0 x) := by
  intro w H0 B aw ow H σ ρ Q Q' r q k
  intro ok p dx hp hdx ne
  have hp2 : upd H dx (.own p) p = none := by rw [upd_ne ne.symm]; exact hp
  have s1 : Same H (upd (upd H dx (.own p)) p (.ins (N.c.cls x) dx [])) := Same.new hp2 (Same.new hdx (Same.refl H))
  have x1 : Ex w.S H (upd (upd H dx (.own p)) p (.ins (N.c.cls x) dx [])) := Ex.of s1 fun st L q => (r.dr st L q).1
  exact k _ _ _ (r.ex x1) x1 (.ins (xs := []) ok (hid_lk (r.occ.no hp) upd_same) rfl .nil) q
/-- a base's __init__ called through the class, the first thing that is done with self -/
def spSup (K : PySem.W.Frag) (c : CEnv) (fs : List Str) : Sp := fun us H Q E => ∃ (x : Str) (gs : List Str) (p dx : Addr) (vs : List V), us = .ref p :: vs ∧ vs.length = fs.length ∧ ClsOk K c x gs ∧ (∀ f ∈ fs, gs.contains f = true) ∧ H p = some (.ins (c.cls x) dx []) ∧
  Q .non (upd H p (.ins (c.cls x) dx (fs.zip vs)))
def pSup (i : Nat) (fs : List Str) (pa : PAr) : PSt := fun D ρ => ∃ x gs, ρ[i]? = some (some (.obj x gs [] [])) ∧ (∀ f ∈ fs, gs.contains f = true) ∧ pa ρ fun ds => ds.length = fs.length ∧ D.nx (ρ.set i (some (.obj x gs fs ds)))
theorem sim_sup {i : Nat} {fs : List Str} {ta : TA} {pa : PAr} (ht : SimA N ta pa) : SimS N (tDrop (tCal (spSup N.K N.c fs) (tCons (tVar i) ta))) (pSup i fs pa) := by
  intro w H0 B aw ow H σ ρ D D' a r ⟨x, gs, el, hc, z⟩
  obtain ⟨b, dx, vs, m, es, ok, eb, hl, rl⟩ := r.sl i _ el
  refine ⟨.ref b, es, ?_⟩
  refine ht w H0 B aw ow H σ ρ _ _ r z fun us ds H1 r1 x1 h1 ⟨hlen, q1⟩ => ?_
  have lu := rpsLen h1
  refine ⟨x, gs, b, dx, us, rfl, by omega, ok.1, hc, x1.1 b _ (r.notSt m) eb, ?_⟩
  have hin : b ∈ (ow.map (·.2) ++ w.O) := List.mem_append_left _ (List.mem_map_of_mem (f := (·.2)) m)
  have ed : ∀ o, dh w ow (upd H1 b o) = dh w ow H1 := fun o => hid_put hin
  have lt := get_lt el
  have r0 : Rel N.K N.c w H0 B ow H1 σ (ρ.set i none) := ⟨r1.occ, r1.dr, r1.nd, r1.inj, r1.fr, r1.fr2, by rw [List.length_set]; exact r1.len, fun j x ej => by
    rw [getElem?_set'] at ej
    by_cases q : i = j
    · rw [if_pos q] at ej; split at ej <;> cases ej
    · rw [if_neg q] at ej; exact r1.sl j x ej, r1.bs⟩
  have r2 := r0.write (o := .ins (N.c.cls x) dx (fs.zip us)) m (fun k x ek mk => by
    have := r0.inj _ mk _ m rfl
    injection this with z _
    subst z
    rw [getElem?_set', if_pos rfl] at ek
    split at ek <;> cases ek)
  refine a.nx ow _ _ _ ⟨r2.occ, r2.dr, r2.nd, r2.inj, r2.fr, r2.fr2, by rw [List.length_set]; exact r.len, fun j x ej => ?_, r2.bs⟩ q1
  rw [getElem?_set'] at ej
  by_cases q : i = j
  · subst q
    rw [if_pos rfl, if_pos lt] at ej
    cases ej
    exact ⟨b, dx, us, m, es, ok, upd_same, by omega, by rw [ed]; exact h1⟩
  · rw [if_neg q] at ej
    exact r2.sl j x (by rw [getElem?_set', if_neg q]; exact ej)
/-! list(range(..)) -/
def rgD (a b : Int) : List Da := (List.range (b - a).toNat).map fun i => Da.int (a + (i : Nat))
def pRg1 (a : PEx) : PEnv → (Int → Int → Prop) → Prop := fun ρ Q => a ρ fun x => ∃ n, x = .int n ∧ Q 0 n
def pRg2 (a b : PEx) : PEnv → (Int → Int → Prop) → Prop := fun ρ Q => a ρ fun x => b ρ fun y => ∃ i j, x = .int i ∧ y = .int j ∧ Q i j
def pLstRg (r : PEnv → (Int → Int → Prop) → Prop) : PEx := fun ρ Q => r ρ fun a b => RgOk a b ∧ Q (.lst (rgD a b))
theorem vals_rgD {K : PySem.W.Frag} {c : CEnv} {S : Option Addr} {G : Hp} {a : Int} : ∀ l : List Nat, RpA K c S G (l.map fun i => V.int (a + (i : Nat))) (l.map fun i => Da.int (a + (i : Nat)))
  | [] => .nil
  | i :: l => .cons (.int _) (vals_rgD l)
theorem sim_lstRg1 {a : TE} {p : PEx} (h : SimE N a p) : SimE N (tLstRg (tRg1 a)) (pLstRg (pRg1 p)) := by
  intro w H0 B aw ow H σ ρ Q Q' r z k
  refine h w H0 B aw ow H σ ρ _ _ r z fun v d H1 r1 x1 h1 ⟨n, e, ok, q⟩ => ?_
  subst e
  exact ⟨n, rpI h1, ok, fun p hp => (k.then x1 fun _ q => q).newL r1 (vals_rgD _) q hp⟩
theorem sim_lstRg2 {a b : TE} {p p2 : PEx} (h : SimE N a p) (h2 : SimE N b p2) : SimE N (tLstRg (tRg2 a b)) (pLstRg (pRg2 p p2)) := by
  intro w H0 B aw ow H σ ρ Q Q' r z k
  refine h w H0 B aw ow H σ ρ _ _ r z fun v d H1 r1 x1 h1 z2 => ?_
  refine h2 w H0 B aw ow H1 σ ρ _ _ r1 z2 fun v2 d2 H2 r2 x2 h2 ⟨i, j, e, e2, ok, q⟩ => ?_
  subst e e2
  exact ⟨i, j, rpI h1, rpI h2, ok, fun p hp => (k.then (Ex.trans x1 x2) fun _ q => q).newL r2 (vals_rgD _) q hp⟩
def pLtB : PR2 := fun x y Q => match x, y with
  | .bl i, .bl j => Q (.bl (decide (bI i < bI j)))
  | x, y => pLt x y Q
def pLeB : PR2 := fun x y Q => match x, y with
  | .bl i, .bl j => Q (.bl (decide (bI i ≤ bI j)))
  | x, y => pLe x y Q
theorem sim_ltB : SimR N (uLtB N.K) pLtB := by
  intro w H0 B ow H σ ρ x y dx dy Q Q' r hx hy h k
  by_cases e : ∃ i j, dx = .bl i ∧ dy = .bl j
  · obtain ⟨i, j, rfl, rfl⟩ := e
    cases hx; cases hy; exact k.flat r (.bl _) h
  · have h2 : pLt dx dy Q' := by
      unfold pLtB at h
      split at h
      · exact absurd ⟨_, _, rfl, rfl⟩ e
      · exact h
    have h3 := sim_lt w H0 B ow H σ ρ x y dx dy Q Q' r hx hy h2 k
    unfold uLtB
    split
    · cases h3
    · exact h3
theorem sim_leB : SimR N uLeB pLeB := by
  intro w H0 B ow H σ ρ x y dx dy Q Q' r hx hy h k
  by_cases e : ∃ i j, dx = .bl i ∧ dy = .bl j
  · obtain ⟨i, j, rfl, rfl⟩ := e
    cases hx; cases hy; exact k.flat r (.bl _) h
  · have h2 : pLe dx dy Q' := by
      unfold pLeB at h
      split at h
      · exact absurd ⟨_, _, rfl, rfl⟩ e
      · exact h
    have h3 := sim_le w H0 B ow H σ ρ x y dx dy Q Q' r hx hy h2 k
    unfold uLeB
    split
    · cases h3
    · exact h3
def pKix (l : List (Str × DV)) (a : PEx) : PEx := fun ρ Q => a ρ fun x => ∃ z w, x = .str z ∧ l.lookup z = some (.v (.str w)) ∧ Q (.str w)
theorem sim_kix {l : List (Str × DV)} {a : TE} {p : PEx} (h : SimE N a p) : SimE N (tKix N.K l a) (pKix l p) := by
  intro w H0 B aw ow H σ ρ Q Q' r q k
  refine h w H0 B aw ow H σ ρ _ _ r q fun x dx H1 r1 s1 h1 ⟨z, u, e, lk, q1⟩ => ?_
  subst e
  cases h1
  refine ⟨z, _, rfl, lk, fun v e => ?_⟩
  obtain rfl : v = .str u := e
  exact k _ _ H1 r1 s1 (.str _) q1
end
/-! steps -/
section
variable {ρ : PEnv} {D : PD} {Q : Da → Prop}
theorem p_isM {xs : List Str} {a : PEx} (h : a ρ fun d => isM1 xs d Q) : pIsM xs a ρ Q := h
theorem p_lstRg {r : PEnv → (Int → Int → Prop) → Prop} (h : r ρ fun a b => RgOk a b ∧ Q (.lst (rgD a b))) : pLstRg r ρ Q := h
theorem p_kix {l : List (Str × DV)} {a : PEx} (h : a ρ fun x => ∃ z w, x = .str z ∧ l.lookup z = some (.v (.str w)) ∧ Q (.str w)) : pKix l a ρ Q := h
theorem p_mk0 {x : Str} (h : Q (.ins x [] [])) : pMk0 x ρ Q := h
end

/-! ### records -/
theorem fl_ok {d : Da} (h : flD d = true) : okTy d = true := by cases d <;> first | rfl | (cases h; done)
def FlF (l : List (Da × Da)) : Prop := ∀ z ∈ l, flD z.1 = true ∧ flD z.2 = true
theorem prD_get {l : List (Da × Da)} {i : Nat} {x : Da} (h : (prD l)[i]? = some x) : ∃ z, l[i]? = some z ∧ z ∈ l ∧ x = .tup [z.1, z.2] := by
  rw [List.getElem?_map] at h
  cases e : l[i]? with
  | none => rw [e] at h; cases h
  | some z => rw [e] at h; cases h; exact ⟨z, rfl, List.mem_of_getElem? e, rfl⟩
theorem eqF_false {a b : List Da} {i : Nat} {x y : Da} (hx : a[i]? = some x) (hy : b[i]? = some y) (h : eqF1 x y = false) : eqF (.tup a) (.tup b) = false := by
  unfold eqF
  rw [Bool.and_eq_false_iff]
  refine .inl ?_
  rw [Bool.eq_false_iff]
  intro z
  have hz : (List.zipWith eqF1 a b)[i]? = some false := by rw [List.getElem?_zipWith, hx, hy]; exact congrArg some h
  have := List.all_eq_true.mp z false (List.mem_of_getElem? hz)
  cases this
theorem eqF_len {a b : List Da} (h : a.length ≠ b.length) : eqF (.tup a) (.tup b) = false := by
  unfold eqF
  rw [Bool.and_eq_false_iff]
  exact .inr (by simpa using h)
theorem eqF_true {a b : List Da} (hl : a.length = b.length) (h : ∀ (i : Nat) (x y : Da), a[i]? = some x → b[i]? = some y → eqF1 x y = true) : eqF (.tup a) (.tup b) = true := by
  unfold eqF
  rw [Bool.and_eq_true, beq_iff_eq]
  refine ⟨List.all_eq_true.mpr fun z hz => ?_, hl⟩
  obtain ⟨i, hi⟩ := List.mem_iff_getElem?.mp hz
  rw [List.getElem?_zipWith] at hi
  cases e : a[i]? with
  | none => rw [e] at hi; cases hi
  | some x => cases e2 : b[i]? with
    | none => rw [e, e2] at hi; cases hi
    | some y => rw [e, e2] at hi; cases hi; exact h i x y e e2
theorem isTy_bool {a : Da} : isTy "bool" a = decide (kd0 a = 1) := by cases a <;> rfl
theorem isTy_str {a : Da} : isTy "str" a = decide (kd0 a = 2) := by cases a <;> rfl
theorem kd_bool {a b : Da} (fa : flD a = true) (fb : flD b = true) (h : kd0 a = kd0 b) : isTy "bool" a = isTy "bool" b := by rw [isTy_bool, isTy_bool, h]
theorem kd_str {a b : Da} (fa : flD a = true) (fb : flD b = true) (h : kd0 a = kd0 b) : isTy "str" a = isTy "str" b := by rw [isTy_str, isTy_str, h]
theorem kd_eq {a b : Da} (fa : flD a = true) (fb : flD b = true) (h1 : isTy "bool" a = isTy "bool" b) (h2 : isTy "str" a = isTy "str" b) : (kd0 a = kd0 b) = True := by
  rw [isTy_bool, isTy_bool] at h1
  rw [isTy_str, isTy_str] at h2
  refine eq_true ?_
  have ha : kd0 a = 0 ∨ kd0 a = 1 ∨ kd0 a = 2 := by cases a <;> simp [kd0]
  have hb : kd0 b = 0 ∨ kd0 b = 1 ∨ kd0 b = 2 := by cases b <;> simp [kd0]
  rw [decide_eq_decide] at h1 h2
  omega
/-! same_value -/
def ps_same_value : PSp := fun ds Q _ => ∃ a b, ds = [a, b] ∧ flD a = true ∧ flD b = true ∧ Q (.bl (decide (kd0 a = kd0 b) && eq0 a b))
def sp_same_value (K : PySem.W.Frag) (c : CEnv) : Sp := lift K c ps_same_value
theorem b_same_value {K : PySem.W.Frag} {c : CEnv} : SpSim K c (sp_same_value K c) ps_same_value := spSim_lift
abbrev N_same_value : List Str := ["a", "b"]
-- same_value(a, b): slots 0:a 1:b
def T_same_value (K : PySem.W.Frag) : TS :=
    (tRet (tAndV (tOp (uEq K) (tCB (uIsi K) (tCons (tVar 0) (tCons (tC (.ty "bool")) tNil))) (tCB (uIsi K) (tCons (tVar 1) (tCons (tC (.ty "bool")) tNil)))) (tAndV (tOp (uEq K) (tCB (uIsi K) (tCons (tVar 0) (tCons (tC (.ty "str")) tNil))) (tCB (uIsi K) (tCons (tVar 1) (tCons (tC (.ty "str")) tNil)))) (tOp (uEq K) (tVar 0) (tVar 1)))))
def P_same_value : PSt :=
    (pRet (pAndV (pOp pEq (pCB pIsi (pCons (pVar 0) (pCons (pC (.ty "bool")) pNil))) (pCB pIsi (pCons (pVar 1) (pCons (pC (.ty "bool")) pNil)))) (pAndV (pOp pEq (pCB pIsi (pCons (pVar 0) (pCons (pC (.ty "str")) pNil))) (pCB pIsi (pCons (pVar 1) (pCons (pC (.ty "str")) pNil)))) (pOp pEq (pVar 0) (pVar 1)))))
theorem S_same_value {K : PySem.W.Frag} {c : CEnv} {W : WX} {Wp : WP} : SimS ⟨K, c, W, Wp⟩ (T_same_value K) (P_same_value) := by
  unfold T_same_value P_same_value
  exact (sim_ret (sim_andV (sim_op sim_eq (sim_cb sim_isi (sim_cons (sim_var 0) (sim_cons (sim_ty _) sim_nil))) (sim_cb sim_isi (sim_cons (sim_var 1) (sim_cons (sim_ty _) sim_nil)))) (sim_andV (sim_op sim_eq (sim_cb sim_isi (sim_cons (sim_var 0) (sim_cons (sim_ty _) sim_nil))) (sim_cb sim_isi (sim_cons (sim_var 1) (sim_cons (sim_ty _) sim_nil)))) (sim_op sim_eq (sim_var 0) (sim_var 1)))))

theorem q_same_value : ∀ ds Q E, ps_same_value ds Q E → ds.length = 2 ∧ P_same_value { nx := fun _ => Q .non, rt := Q } (startP 2 ds) := by
  rintro _ Q E ⟨a, b, rfl, fa, fb, q⟩
  refine ⟨rfl, ?_⟩
  show P_same_value _ [some (.d a), some (.d b)]
  unfold P_same_value
  walk_at "pz"
  refine p_isi (fl_ok fa) (by decide) ?_
  walk_at "pz"
  refine p_isi (fl_ok fb) (by decide) ?_
  walk_at "pz"
  refine z_itD (fun c1 => ?_) (fun c1 => ?_)
  · walk_at "pz"
    refine p_isi (fl_ok fa) (by decide) ?_
    walk_at "pz"
    refine p_isi (fl_ok fb) (by decide) ?_
    walk_at "pz"
    refine z_itD (fun c2 => ?_) (fun c2 => ?_)
    · walk_at "pz"
      refine p_eqf fa fb ?_
      rw [eqD_flat fa fb]
      rw [decide_eq_true (of_eq_true (kd_eq fa fb c1 c2)), Bool.true_and] at q
      exact q
    · rw [decide_eq_false (fun z => c2 (kd_str fa fb z)), Bool.false_and] at q
      exact q
  · rw [decide_eq_false (fun z => c1 (kd_bool fa fb z)), Bool.false_and] at q
    exact q
theorem w_same_value {K : PySem.W.Frag} {c : CEnv} : Wd (T_same_value K) N_same_value 2 (sp_same_value K c) := wd_lift S_same_value q_same_value
/-! same_fields -/
def ps_same_fields : PSp := fun ds Q _ => ∃ la lb, ds = [.tup (prD la), .tup (prD lb)] ∧ FlF la ∧ FlF lb ∧ Q (.bl (eqF (.tup (prD la)) (.tup (prD lb))))
def sp_same_fields (K : PySem.W.Frag) (c : CEnv) : Sp := lift K c ps_same_fields
theorem b_same_fields {K : PySem.W.Frag} {c : CEnv} : SpSim K c (sp_same_fields K c) ps_same_fields := spSim_lift
abbrev N_same_fields : List Str := ["a", "b", "name", "worth", "other", "second"]
-- same_fields(a, b): slots 0:a 1:b 2:name 3:worth 4:other 5:second
def T_same_fields_b1 (K : PySem.W.Frag) (c : CEnv) : TS :=
    (tIfS (tOr (tTest (tOp (uNe K) (tVar 2) (tVar 4))) (tNot (tTru K (tCal (sp_same_value K c) (tCons (tVar 3) (tCons (tVar 5) tNil)))))) (tRet (tC (.bl false))) tNext)
def T_same_fields (K : PySem.W.Frag) (c : CEnv) : TS :=
    (tSeq (tIfS (tTest (tOp (uNe K) (tCB (uLen K) (tCons (tVar 0) tNil)) (tCB (uLen K) (tCons (tVar 1) tNil)))) (tRet (tC (.bl false))) tNext)
    (tSeq (tFor (RZ.iZipA K (tCons (tVar 0) (tCons (tVar 1) tNil))) (gTup K 2 (gCons (gTup K 2 (gCons (gName 2) (gCons (gName 3) gNil))) (gCons (gTup K 2 (gCons (gName 4) (gCons (gName 5) gNil))) gNil))) (T_same_fields_b1 K c))
    (tRet (tC (.bl true)))))
def P_same_fields_b1 : PSt :=
    (pIfS (pOr (pTest (pOp pNe (pVar 2) (pVar 4))) (pNot (pTru (pCal ps_same_value (pCons (pVar 3) (pCons (pVar 5) pNil)))))) (pRet (pC (.bl false))) pNext)
def P_same_fields : PSt :=
    (pSeq (pIfS (pTest (pOp pNe (pCB pLen (pCons (pVar 0) pNil)) (pCB pLen (pCons (pVar 1) pNil)))) (pRet (pC (.bl false))) pNext)
    (pSeq (pFor (piZip (pCons (pVar 0) (pCons (pVar 1) pNil))) (pgTup 2 (pgCons (pgTup 2 (pgCons (pgName 2) (pgCons (pgName 3) pgNil))) (pgCons (pgTup 2 (pgCons (pgName 4) (pgCons (pgName 5) pgNil))) pgNil))) P_same_fields_b1)
    (pRet (pC (.bl true)))))
theorem S_same_fields {K : PySem.W.Frag} {c : CEnv} {W : WX} {Wp : WP} : SimS ⟨K, c, W, Wp⟩ (T_same_fields K c) (P_same_fields) := by
  unfold T_same_fields P_same_fields T_same_fields_b1 P_same_fields_b1
  exact (sim_seq (sim_ifS (sim_test (sim_op sim_ne (sim_cb sim_len (sim_cons (sim_var 0) sim_nil)) (sim_cb sim_len (sim_cons (sim_var 1) sim_nil)))) (sim_ret (sim_bl _)) sim_next)
    (sim_seq (sim_for (sim_iZip (sim_cons (sim_var 0) (sim_cons (sim_var 1) sim_nil))) (sim_gTup (sim_gCons (sim_gTup (sim_gCons (sim_gName 2) (sim_gCons (sim_gName 3) sim_gNil))) (sim_gCons (sim_gTup (sim_gCons (sim_gName 4) (sim_gCons (sim_gName 5) sim_gNil))) sim_gNil))) (sim_ifS (sim_or (sim_test (sim_op sim_ne (sim_var 2) (sim_var 4))) (sim_not (sim_tru (sim_cal b_same_value (sim_cons (sim_var 3) (sim_cons (sim_var 5) sim_nil)))))) (sim_ret (sim_bl _)) sim_next))
    (sim_ret (sim_bl _))))

theorem q_same_fields : ∀ ds Q E, ps_same_fields ds Q E → ds.length = 2 ∧ P_same_fields { nx := fun _ => Q .non, rt := Q } (startP 6 ds) := by
  rintro _ Q E ⟨la, lb, rfl, fa, fb, q⟩
  refine ⟨rfl, ?_⟩
  show P_same_fields _ [some (.d (.tup (prD la))), some (.d (.tup (prD lb))), none, none, none, none]
  unfold P_same_fields
  walk_at "pz"
  refine z_itN (fun c => ?_) (fun c => ?_)
  · walk_at "pz"
    rw [eqF_len (by omega)] at q
    exact q
  walk_at "pz"
  refine p_loop (fun i ρ => (∃ x2 x3 x4 x5, ρ = [some (.d (.tup (prD la))), some (.d (.tup (prD lb))), x2, x3, x4, x5]) ∧ ∀ (j : Nat) (x y : Da), j < i → (prD la)[j]? = some x → (prD lb)[j]? = some y → eqF1 x y = true) ⟨⟨_, _, _, _, rfl⟩, fun j x y hj => absurd hj (Nat.not_lt_zero _)⟩ ?_ ?_
  · rintro i x ρ' hx ⟨⟨x2, x3, x4, x5, rfl⟩, ih⟩
    obtain ⟨u, v, hu, hv, rfl⟩ := zipD_get hx
    obtain ⟨z1, e1, m1, rfl⟩ := prD_get hu
    obtain ⟨z2, e2, m2, rfl⟩ := prD_get hv
    unfold P_same_fields_b1
    walk_at "pz"
    refine p_nef (fa _ m1).1 (fb _ m2).1 ?_
    have ef : eqF1 (.tup [z1.1, z1.2]) (.tup [z2.1, z2.2]) = (eqD z1.1 z2.1 && (decide (kd0 z1.2 = kd0 z2.2) && eq0 z1.2 z2.2)) := by rw [eqD_flat (fa _ m1).1 (fb _ m2).1]; rfl
    cases c2 : eqD z1.1 z2.1 with
    | false =>
      walk_at "px"
      rw [eqF_false hu hv (by rw [ef, c2]; rfl)] at q
      exact q
    | true =>
      walk_at "px"
      refine ⟨_, _, rfl, (fa _ m1).2, (fb _ m2).2, ?_⟩
      cases c3 : decide (kd0 z1.2 = kd0 z2.2) && eq0 z1.2 z2.2 with
      | false =>
        walk_at "px"
        rw [eqF_false hu hv (by rw [ef, c3, Bool.and_false])] at q
        exact q
      | true =>
        walk_at "px"
        refine ⟨⟨_, _, _, _, rfl⟩, fun j x y hj hx2 hy2 => ?_⟩
        rcases Nat.lt_succ_iff_lt_or_eq.mp hj with z | z
        · exact ih j x y z hx2 hy2
        · subst z
          rw [hu] at hx2; rw [hv] at hy2
          cases hx2; cases hy2
          rw [ef, c2, c3]; rfl
  · rintro ρ' ⟨⟨x2, x3, x4, x5, rfl⟩, ih⟩
    walk_at "pz"
    rw [eqF_true (by omega) fun i x y hx hy => ih i x y (by
      have := (List.getElem?_eq_some_iff.mp hx).1
      have := (List.getElem?_eq_some_iff.mp hy).1
      rw [zipD_len]; omega) hx hy] at q
    exact q
theorem w_same_fields {K : PySem.W.Frag} {c : CEnv} : Wd (T_same_fields K c) N_same_fields 2 (sp_same_fields K c) := wd_lift S_same_fields q_same_fields
abbrev RK : List Str := ["name", "vector", "fields", "words"]
abbrev recD (n : Da) (v f w : List Da) : Da := .ins "Record" RK [n, .tup v, .tup f, .tup w]
/-! Record_init -/
def ps_Record_init : PSi := fun ds Q _ => ∃ n v f w lv lf lw, ds = [n, v, f, w] ∧ seqD v lv ∧ seqD f (prD lf) ∧ seqD w (prD lw) ∧ lf.length ≤ 1000 ∧ lw.length ≤ 1000 ∧ Q [n, .tup lv, .tup (prD lf), .tup (prD lw)]
def sp_Record_init (K : PySem.W.Frag) (c : CEnv) : Sp := liftI K c "Record" RK ps_Record_init
theorem b_Record_init {K : PySem.W.Frag} {c : CEnv} : SpSimI K c "Record" RK (sp_Record_init K c) ps_Record_init := spSimI_lift
abbrev N_Record_init : List Str := ["self", "name", "vector", "fields", "words", "field", "worth", "word", "count"]
-- Record.__init__(self, name, vector, fields, words): slots 0:self 1:name 2:vector 3:fields 4:words 5:field 6:worth 7:word 8:count
def T_Record_init (K : PySem.W.Frag) : TS :=
    (tSeq (sFld K (tVar 0) (tVar 1) "name")
    (tSeq (sFld K (tVar 0) (tCB (uTuple K) (tCons (tVar 2) tNil)) "vector")
    (tSeq (sFld K (tVar 0) (tCB (uTuple K) (tCons (tLc (iSq K (tVar 3)) (gTup K 2 (gCons (gName 5) (gCons (gName 6) gNil))) tYes (tTup (tCons (tVar 5) (tCons (tVar 6) tNil))) [5, 6]) tNil)) "fields")
    (sFld K (tVar 0) (tCB (uTuple K) (tCons (tLc (iSq K (tVar 4)) (gTup K 2 (gCons (gName 7) (gCons (gName 8) gNil))) tYes (tTup (tCons (tVar 7) (tCons (tVar 8) tNil))) [7, 8]) tNil)) "words"))))
def P_Record_init : PSt :=
    (pSeq (pSetF 0 "name" (pVar 1))
    (pSeq (pSetF 0 "vector" (pCB pTuple (pCons (pVar 2) pNil)))
    (pSeq (pSetF 0 "fields" (pCB pTuple (pCons (pLc (piSq (pVar 3)) (pgTup 2 (pgCons (pgName 5) (pgCons (pgName 6) pgNil))) pYes (pTup (pCons (pVar 5) (pCons (pVar 6) pNil))) [5, 6]) pNil)))
    (pSetF 0 "words" (pCB pTuple (pCons (pLc (piSq (pVar 4)) (pgTup 2 (pgCons (pgName 7) (pgCons (pgName 8) pgNil))) pYes (pTup (pCons (pVar 7) (pCons (pVar 8) pNil))) [7, 8]) pNil))))))
theorem S_Record_init {K : PySem.W.Frag} {c : CEnv} {W : WX} {Wp : WP} : SimS ⟨K, c, W, Wp⟩ (T_Record_init K) (P_Record_init) := by
  unfold T_Record_init P_Record_init
  exact (sim_seq (sim_setF (sim_var 1))
    (sim_seq (sim_setF (sim_cb sim_tuple (sim_cons (sim_var 2) sim_nil)))
    (sim_seq (sim_setF (sim_cb sim_tuple (sim_cons (sim_lc (sim_iSq (sim_var 3)) (sim_gTup (sim_gCons (sim_gName 5) (sim_gCons (sim_gName 6) sim_gNil))) (by decide) sim_yes (sim_tup (sim_cons (sim_var 5) (sim_cons (sim_var 6) sim_nil)))) sim_nil)))
    (sim_setF (sim_cb sim_tuple (sim_cons (sim_lc (sim_iSq (sim_var 4)) (sim_gTup (sim_gCons (sim_gName 7) (sim_gCons (sim_gName 8) sim_gNil))) (by decide) sim_yes (sim_tup (sim_cons (sim_var 7) (sim_cons (sim_var 8) sim_nil)))) sim_nil))))))

theorem q_Record_init : ∀ ds Q E, ps_Record_init ds Q E → ds.length + 1 = 5 ∧ P_Record_init { nx := endI "Record" RK Q, rt := fun _ => False } (startI "Record" RK 9 ds) := by
  rintro _ Q E ⟨n, v, f, w, lv, lf, lw, rfl, hv, hf, hw, l1, l2, q⟩
  refine ⟨rfl, ?_⟩
  show P_Record_init _ [some (.obj "Record" RK [] []), some (.d n), some (.d v), some (.d f), some (.d w), none, none, none, none]
  unfold P_Record_init
  walk_at "pz"
  refine p_tupleS hv ?_
  walk_at "pz"
  refine p_isqS hf ?_
  refine p_map (by rw [prD_len]; omega) id (fun i x R hx k => ?_) ?_
  · obtain ⟨z, _, _, rfl⟩ := prD_get hx
    walk_at "pz"
    exact k
  rw [List.map_id]
  walk_at "pz"
  refine p_isqS hw ?_
  refine p_map (by rw [prD_len]; omega) id (fun i x R hx k => ?_) ?_
  · obtain ⟨z, _, _, rfl⟩ := prD_get hx
    walk_at "pz"
    exact k
  rw [List.map_id]
  walk_at "pz"
  exact ⟨_, rfl, q⟩
theorem w_Record_init {K : PySem.W.Frag} {c : CEnv} : Wd (T_Record_init K) N_Record_init 5 (sp_Record_init K c) := wd_liftI S_Record_init (by decide) q_Record_init
/-! Record_eq -/
def okRec (l m : List Da) : Prop := ∃ n v lf lw n2 v2 lf2 lw2, l = [n, .tup v, .tup (prD lf), .tup (prD lw)] ∧ m = [n2, .tup v2, .tup (prD lf2), .tup (prD lw2)] ∧ flD n = true ∧ flD n2 = true ∧ v.all flD = true ∧ v2.all flD = true ∧ FlF lf ∧ FlF lf2 ∧ FlF lw ∧ FlF lw2
def ps_Record_eq : PSp := psEqOf "Record" RK okRec
def sp_Record_eq (K : PySem.W.Frag) (c : CEnv) : Sp := lift K c ps_Record_eq
theorem b_Record_eq {K : PySem.W.Frag} {c : CEnv} : SpSim K c (sp_Record_eq K c) ps_Record_eq := spSim_lift
abbrev N_Record_eq : List Str := ["self", "other"]
-- Record.__eq__(self, other): slots 0:self 1:other
def T_Record_eq (K : PySem.W.Frag) (c : CEnv) : TS :=
    (tSeq (tIfS (tNot (tTru K (tCB (uIsi K) (tCons (tVar 1) (tCons (tCls K c "Record") tNil))))) (tRet (tC (.bl false))) tNext)
    (tSeq (tIfS (tOr (tTest (tOp (uNe K) (tFld K (tVar 0) "name") (tFld K (tVar 1) "name"))) (tOr (tTest (tOp (uNe K) (tFld K (tVar 0) "vector") (tFld K (tVar 1) "vector"))) (tTest (tOp (uNe K) (tFld K (tVar 0) "words") (tFld K (tVar 1) "words"))))) (tRet (tC (.bl false))) tNext)
    (tRet (tCal (sp_same_fields K c) (tCons (tFld K (tVar 0) "fields") (tCons (tFld K (tVar 1) "fields") tNil))))))
def P_Record_eq : PSt :=
    (pSeq (pIfS (pNot (pTru (pIsC "Record" (pVar 1)))) (pRet (pC (.bl false))) pNext)
    (pSeq (pIfS (pOr (pTest (pOp pNe (pFld (pVar 0) "name") (pFld (pVar 1) "name"))) (pOr (pTest (pOp pNe (pFld (pVar 0) "vector") (pFld (pVar 1) "vector"))) (pTest (pOp pNe (pFld (pVar 0) "words") (pFld (pVar 1) "words"))))) (pRet (pC (.bl false))) pNext)
    (pRet (pCal ps_same_fields (pCons (pFld (pVar 0) "fields") (pCons (pFld (pVar 1) "fields") pNil))))))
theorem S_Record_eq {K : PySem.W.Frag} {c : CEnv} {W : WX} {Wp : WP} : SimS ⟨K, c, W, Wp⟩ (T_Record_eq K c) (P_Record_eq) := by
  unfold T_Record_eq P_Record_eq
  exact (sim_seq (sim_ifS (sim_not (sim_tru (sim_isC (sim_var 1)))) (sim_ret (sim_bl _)) sim_next)
    (sim_seq (sim_ifS (sim_or (sim_test (sim_op sim_ne (sim_fld (sim_var 0)) (sim_fld (sim_var 1)))) (sim_or (sim_test (sim_op sim_ne (sim_fld (sim_var 0)) (sim_fld (sim_var 1)))) (sim_test (sim_op sim_ne (sim_fld (sim_var 0)) (sim_fld (sim_var 1)))))) (sim_ret (sim_bl _)) sim_next)
    (sim_ret (sim_cal b_same_fields (sim_cons (sim_fld (sim_var 0)) (sim_cons (sim_fld (sim_var 1)) sim_nil))))))

theorem q_Record_eq : ∀ ds Q E, ps_Record_eq ds Q E → ds.length = 2 ∧ P_Record_eq { nx := fun _ => Q .non, rt := Q } (startP 2 ds) := by
  rintro _ Q E ⟨l, e, rfl, h, q⟩
  refine ⟨rfl, ?_⟩
  show P_Record_eq _ [some (.d (.ins "Record" RK l)), some (.d e)]
  unfold P_Record_eq
  walk_at "pz"
  refine p_isAsk h (fun m he hm ho => ?_) (fun ef => ?_)
  · subst he
    obtain ⟨n, v, lf, lw, n2, v2, lf2, lw2, rfl, rfl, fn, fn2, fv, fv2, ff, ff2, fw, fw2⟩ := ho
    have ed : eqD (.ins "Record" RK [n, .tup v, .tup (prD lf), .tup (prD lw)]) (.ins "Record" RK [n2, .tup v2, .tup (prD lf2), .tup (prD lw2)]) = (eqD n n2 && (eqD (.tup v) (.tup v2) && (eqF (.tup (prD lf)) (.tup (prD lf2)) && eqD (.tup (prD lw)) (.tup (prD lw2))))) := by simp [eqD, eqRs]
    rw [ed] at q
    walk_at "px"
    refine p_nef fn fn2 ?_
    cases c1 : eqD n n2 with
    | false => rw [c1] at q; walk_at "px"; exact q
    | true =>
      walk_at "px"
      refine ⟨1, by decide, Cq.tup (Cq.flats fv fv2), ?_⟩
      cases c2 : eqD (.tup v) (.tup v2) with
      | false => rw [c1, c2] at q; walk_at "px"; exact q
      | true =>
        walk_at "px"
        refine ⟨2, by decide, Cq.tup (fun i x y hx hy => ?_), ?_⟩
        · obtain ⟨z, _, m1, rfl⟩ := prD_get hx
          obtain ⟨z2, _, m2, rfl⟩ := prD_get hy
          exact Cq.tup (Cq.flats (by simp [fw _ m1]) (by simp [fw2 _ m2]))
        cases c3 : eqD (.tup (prD lw)) (.tup (prD lw2)) with
        | false => rw [c1, c2, c3] at q; walk_at "px"; simpa using q
        | true =>
          rw [c1, c2, c3] at q
          walk_at "px"
          exact ⟨_, _, rfl, ff, ff2, by simpa using q⟩
  · rw [ef] at q
    walk_at "px"
    exact q
theorem w_Record_eq {K : PySem.W.Frag} {c : CEnv} : Wd (T_Record_eq K c) N_Record_eq 2 (sp_Record_eq K c) := wd_lift S_Record_eq q_Record_eq

local macro_rules | `(tactic| walk_at "pu") => `(tactic| (with_reducible first | refine p_istr ?_ | refine p_cstT ?_ | refine p_kout ?_ | refine p_kin ?_ | refine p_kst ?_ | refine p_ord ?_ | refine p_izip2 ?_ | refine p_izip3 ?_ | (refine p_zip2 (by first | exact seqL | exact seqT | assumption) (by first | exact seqL | exact seqT | assumption) ?_) | (refine p_zip3 (by first | exact seqL | exact seqT | assumption) (by first | exact seqL | exact seqT | assumption) (by first | exact seqL | exact seqT | assumption) ?_) | (refine p_lenS (by omega) ?_)))
local macro_rules | `(tactic| walk_at "pv") => `(tactic| repeat (first | walk_at "p1" | walk_at "pu"))
local macro_rules | `(tactic| walk_at "pw") => `(tactic| repeat (first | walk_at "p1" | walk_at "pu" | walk_at "pd"))
local macro_rules | `(tactic| walk_at "pb") => `(tactic| (with_reducible first | refine p_ltBi ?_ | refine p_ltBs ?_ | refine p_ltBb ?_ | refine p_leBi ?_ | refine p_leBs ?_ | refine p_leBb ?_ | refine p_isM ?_ | refine p_kix ?_ | refine p_lstRg ?_))
local macro_rules | `(tactic| walk_at "pk") => `(tactic| repeat (first | walk_at "p1" | walk_at "pu" | walk_at "pb" | walk_at "pd" | walk_at "pr"))

/-! values of fields, conditions on one field, facts about fields -/
inductive Wo where
  | i (n : Int) | s (x : Str) | b (x : Bool)
  deriving DecidableEq
def Wo.d : Wo → Da
  | .i n => .int n
  | .s x => .str x
  | .b x => .bl x
def Wo.k : Wo → Nat
  | .i _ => 0
  | .s _ => 1
  | .b _ => 2
def SG : List Str := ["=", "!=", "<", "<=", ">", ">="]
def ltW : Wo → Wo → Bool
  | .i a, .i b => decide (a < b)
  | .s a, .s b => decide (a.cps.toList < b.cps.toList)
  | .b a, .b b => decide (bI a < bI b)
  | _, _ => false
def leW : Wo → Wo → Bool
  | .i a, .i b => decide (a ≤ b)
  | .s a, .s b => !decide (b.cps.toList < a.cps.toList)
  | .b a, .b b => decide (bI a ≤ bI b)
  | _, _ => false
def cmpW (s : Str) (a b : Wo) : Bool := if s = "=" then decide (a = b) else if s = "!=" then !decide (a = b) else if s = "<" then ltW a b else if s = "<=" then leW a b else if s = ">" then ltW b a else leW b a
section
variable {a b : Wo}
theorem cmpW_eq : cmpW "=" a b = decide (a = b) := if_pos rfl
theorem cmpW_ne : cmpW "!=" a b = !decide (a = b) := by unfold cmpW; rw [if_neg (by decide), if_pos rfl]
theorem cmpW_lt : cmpW "<" a b = ltW a b := by unfold cmpW; rw [if_neg (by decide), if_neg (by decide), if_pos rfl]
theorem cmpW_le : cmpW "<=" a b = leW a b := by unfold cmpW; rw [if_neg (by decide), if_neg (by decide), if_neg (by decide), if_pos rfl]
theorem cmpW_gt : cmpW ">" a b = ltW b a := by unfold cmpW; rw [if_neg (by decide), if_neg (by decide), if_neg (by decide), if_neg (by decide), if_pos rfl]
theorem cmpW_ge : cmpW ">=" a b = leW b a := by unfold cmpW; rw [if_neg (by decide), if_neg (by decide), if_neg (by decide), if_neg (by decide), if_neg (by decide)]
end
theorem p_ltBi {i j : Int} {Q : Da → Prop} (h : Q (.bl (decide (i < j)))) : pLtB (.int i) (.int j) Q := h
theorem p_ltBs {i j : Str} {Q : Da → Prop} (h : Q (.bl (decide (i.cps.toList < j.cps.toList)))) : pLtB (.str i) (.str j) Q := h
theorem p_ltBb {i j : Bool} {Q : Da → Prop} (h : Q (.bl (decide (bI i < bI j)))) : pLtB (.bl i) (.bl j) Q := h
theorem p_leBi {i j : Int} {Q : Da → Prop} (h : Q (.bl (decide (i ≤ j)))) : pLeB (.int i) (.int j) Q := h
theorem p_leBs {i j : Str} {Q : Da → Prop} (h : Q (.bl (!decide (j.cps.toList < i.cps.toList)))) : pLeB (.str i) (.str j) Q := h
theorem p_leBb {i j : Bool} {Q : Da → Prop} (h : Q (.bl (decide (bI i ≤ bI j)))) : pLeB (.bl i) (.bl j) Q := h
theorem p_isMi {y : Str} {ks : List Str} {l : List Da} {xs : List Str} {b : Bool} {Q : Da → Prop} (e : (xs.any fun x => SUB y x) = b) (h : Q (.bl b)) : isM1 xs (.ins y ks l) Q := by
  show Q (.bl (xs.any fun x => SUB y x))
  rw [e]; exact h
/-! compare -/
def ps_compare : PSp := fun ds Q _ => ∃ (s : Str) (a b : Wo), ds = [.str s, a.d, b.d] ∧ s ∈ SG ∧ a.k = b.k ∧ Q (.bl (cmpW s a b))
def sp_compare (K : PySem.W.Frag) (c : CEnv) : Sp := lift K c ps_compare
theorem b_compare {K : PySem.W.Frag} {c : CEnv} : SpSim K c (sp_compare K c) ps_compare := spSim_lift
abbrev N_compare : List Str := ["sign", "a", "b"]
-- compare(sign, a, b): slots 0:sign 1:a 2:b
def T_compare (K : PySem.W.Frag) : TS :=
    (tSeq (tIfS (tTest (tOp (uEq K) (tVar 0) (tC (.str "=")))) (tRet (tOp (uEq K) (tVar 1) (tVar 2))) tNext)
    (tSeq (tIfS (tTest (tOp (uEq K) (tVar 0) (tC (.str "!=")))) (tRet (tOp (uNe K) (tVar 1) (tVar 2))) tNext)
    (tSeq (tIfS (tTest (tOp (uEq K) (tVar 0) (tC (.str "<")))) (tRet (tOp (uLtB K) (tVar 1) (tVar 2))) tNext)
    (tSeq (tIfS (tTest (tOp (uEq K) (tVar 0) (tC (.str "<=")))) (tRet (tOp uLeB (tVar 1) (tVar 2))) tNext)
    (tSeq (tIfS (tTest (tOp (uEq K) (tVar 0) (tC (.str ">")))) (tRet (tOp (uLtB K) (tVar 2) (tVar 1))) tNext)
    (tRet (tOp uLeB (tVar 2) (tVar 1))))))))
def P_compare : PSt :=
    (pSeq (pIfS (pTest (pOp pEq (pVar 0) (pC (.str "=")))) (pRet (pOp pEq (pVar 1) (pVar 2))) pNext)
    (pSeq (pIfS (pTest (pOp pEq (pVar 0) (pC (.str "!=")))) (pRet (pOp pNe (pVar 1) (pVar 2))) pNext)
    (pSeq (pIfS (pTest (pOp pEq (pVar 0) (pC (.str "<")))) (pRet (pOp pLtB (pVar 1) (pVar 2))) pNext)
    (pSeq (pIfS (pTest (pOp pEq (pVar 0) (pC (.str "<=")))) (pRet (pOp pLeB (pVar 1) (pVar 2))) pNext)
    (pSeq (pIfS (pTest (pOp pEq (pVar 0) (pC (.str ">")))) (pRet (pOp pLtB (pVar 2) (pVar 1))) pNext)
    (pRet (pOp pLeB (pVar 2) (pVar 1))))))))
theorem S_compare {K : PySem.W.Frag} {c : CEnv} : SimS ⟨K, c, W0, fun _ _ => False⟩ (T_compare K) (P_compare) := by
  unfold T_compare P_compare
  exact (sim_seq (sim_ifS (sim_test (sim_op sim_eq (sim_var 0) (sim_str _))) (sim_ret (sim_op sim_eq (sim_var 1) (sim_var 2))) sim_next)
    (sim_seq (sim_ifS (sim_test (sim_op sim_eq (sim_var 0) (sim_str _))) (sim_ret (sim_op sim_ne (sim_var 1) (sim_var 2))) sim_next)
    (sim_seq (sim_ifS (sim_test (sim_op sim_eq (sim_var 0) (sim_str _))) (sim_ret (sim_op sim_ltB (sim_var 1) (sim_var 2))) sim_next)
    (sim_seq (sim_ifS (sim_test (sim_op sim_eq (sim_var 0) (sim_str _))) (sim_ret (sim_op sim_leB (sim_var 1) (sim_var 2))) sim_next)
    (sim_seq (sim_ifS (sim_test (sim_op sim_eq (sim_var 0) (sim_str _))) (sim_ret (sim_op sim_ltB (sim_var 2) (sim_var 1))) sim_next)
    (sim_ret (sim_op sim_leB (sim_var 2) (sim_var 1))))))))

theorem q_compare : ∀ ds Q E, ps_compare ds Q E → ds.length = 3 ∧ P_compare { nx := fun _ => Q .non, rt := Q } (startP 3 ds) := by
  rintro _ Q E ⟨s, a, b, rfl, hs, hk, q⟩
  refine ⟨rfl, ?_⟩
  unfold P_compare startP
  simp only [SG, List.mem_cons, List.not_mem_nil, or_false] at hs
  rcases hs with rfl | rfl | rfl | rfl | rfl | rfl <;> cases a <;> cases b <;> first | exact absurd hk (by simp only [Wo.k]; decide) | skip
  all_goals (dsimp only [Wo.d]; walk_at "pk")
  all_goals first | (simp only [cmpW_eq, cmpW_ne, cmpW_lt, cmpW_le, cmpW_gt, cmpW_ge, ltW, leW, Wo.i.injEq, Wo.s.injEq, Wo.b.injEq] at q; exact q) | exact q
theorem w_compare {K : PySem.W.Frag} {c : CEnv} : Wd (T_compare K) N_compare 3 (sp_compare K c) := wd_lift S_compare q_compare

theorem same_wo {a b : Wo} : (decide (kd0 a.d = kd0 b.d) && eq0 a.d b.d) = decide (a = b) := by
  cases a <;> cases b <;> simp [Wo.d, kd0, eq0, eqV]
theorem fl_wo {a : Wo} : flD a.d = true := by cases a <;> rfl
/-! is_one_of -/
def ps_is_one_of : PSp := fun ds Q _ => ∃ (w : Wo) (l : List Wo) (v : Da), ds = [w.d, v] ∧ seqD v (l.map Wo.d) ∧ l.length ≤ 1000 ∧ Q (.bl (decide (w ∈ l)))
def sp_is_one_of (K : PySem.W.Frag) (c : CEnv) : Sp := lift K c ps_is_one_of
theorem b_is_one_of {K : PySem.W.Frag} {c : CEnv} : SpSim K c (sp_is_one_of K c) ps_is_one_of := spSim_lift
abbrev N_is_one_of : List Str := ["worth", "choices", "choice"]
-- is_one_of(worth, choices): slots 0:worth 1:choices 2:choice
def T_is_one_of_b1 (K : PySem.W.Frag) (c : CEnv) : TS :=
    (tIfS (tTru K (tCal (sp_same_value K c) (tCons (tVar 0) (tCons (tVar 2) tNil)))) (tRet (tC (.bl true))) tNext)
def T_is_one_of (K : PySem.W.Frag) (c : CEnv) : TS :=
    (tSeq (tFor (iSq K (tVar 1)) (gName 2) (T_is_one_of_b1 K c))
    (tRet (tC (.bl false))))
def P_is_one_of_b1 : PSt :=
    (pIfS (pTru (pCal ps_same_value (pCons (pVar 0) (pCons (pVar 2) pNil)))) (pRet (pC (.bl true))) pNext)
def P_is_one_of : PSt :=
    (pSeq (pFor (piSq (pVar 1)) (pgName 2) P_is_one_of_b1)
    (pRet (pC (.bl false))))
theorem S_is_one_of {K : PySem.W.Frag} {c : CEnv} : SimS ⟨K, c, W0, fun _ _ => False⟩ (T_is_one_of K c) (P_is_one_of) := by
  unfold T_is_one_of P_is_one_of T_is_one_of_b1 P_is_one_of_b1
  exact (sim_seq (sim_for (sim_iSq (sim_var 1)) (sim_gName 2) (sim_ifS (sim_tru (sim_cal b_same_value (sim_cons (sim_var 0) (sim_cons (sim_var 2) sim_nil)))) (sim_ret (sim_bl _)) sim_next))
    (sim_ret (sim_bl _)))

theorem q_is_one_of : ∀ ds Q E, ps_is_one_of ds Q E → ds.length = 2 ∧ P_is_one_of { nx := fun _ => Q .non, rt := Q } (startP 3 ds) := by
  rintro _ Q E ⟨w, l, v, rfl, sv, hl, q⟩
  refine ⟨rfl, ?_⟩
  show P_is_one_of _ [some (.d w.d), some (.d v), none]
  unfold P_is_one_of
  walk_at "pz"
  refine ⟨_, sv, ?_⟩
  refine p_loop (fun i ρ => (∃ x, ρ = [some (.d w.d), some (.d v), x]) ∧ w ∉ l.take i) ⟨⟨_, rfl⟩, by simp⟩ (fun i x ρ hx ⟨⟨y, e⟩, hn⟩ => ?_) (fun ρ ⟨⟨y, e⟩, hn⟩ => ?_)
  · subst e
    rw [List.getElem?_map] at hx
    obtain ⟨u, hu, rfl⟩ := Option.map_eq_some_iff.mp hx
    unfold P_is_one_of_b1
    walk_at "pz"
    refine ⟨w.d, u.d, rfl, fl_wo, fl_wo, ?_⟩
    rw [same_wo]
    walk_at "pz"
    refine z_ite (fun e => ?_) (fun e => ?_)
    · have e : w = u := of_decide_eq_true e
      walk_at "pz"
      rw [show decide (w ∈ l) = true from decide_eq_true (e ▸ List.mem_of_getElem? hu)] at q
      exact q
    · have e : w ≠ u := of_decide_eq_false e
      refine ⟨⟨_, rfl⟩, ?_⟩
      rw [List.take_add_one, hu]
      simp [hn, e]
  · subst e
    rw [List.length_map, List.take_length] at hn
    walk_at "pz"
    rw [decide_eq_false hn] at q
    exact q
theorem w_is_one_of {K : PySem.W.Frag} {c : CEnv} : Wd (T_is_one_of K c) N_is_one_of 2 (sp_is_one_of K c) := wd_lift S_is_one_of q_is_one_of

def Wo.isI : Wo → Bool
  | .i _ => true
  | _ => false
/-! is_integer -/
def ps_is_integer : PSp := fun ds Q _ => ∃ (w : Wo), ds = [w.d] ∧ Q (.bl w.isI)
def sp_is_integer (K : PySem.W.Frag) (c : CEnv) : Sp := lift K c ps_is_integer
theorem b_is_integer {K : PySem.W.Frag} {c : CEnv} : SpSim K c (sp_is_integer K c) ps_is_integer := spSim_lift
abbrev N_is_integer : List Str := ["worth"]
-- is_integer(worth): slots 0:worth
def T_is_integer (K : PySem.W.Frag) : TS :=
    (tRet (tAndV (tCB (uIsi K) (tCons (tVar 0) (tCons (tC (.ty "int")) tNil))) (tNotV (tCB (uIsi K) (tCons (tVar 0) (tCons (tC (.ty "bool")) tNil))))))
def P_is_integer : PSt :=
    (pRet (pAndV (pCB pIsi (pCons (pVar 0) (pCons (pC (.ty "int")) pNil))) (pNotV (pCB pIsi (pCons (pVar 0) (pCons (pC (.ty "bool")) pNil))))))
theorem S_is_integer {K : PySem.W.Frag} {c : CEnv} : SimS ⟨K, c, W0, fun _ _ => False⟩ (T_is_integer K) (P_is_integer) := by
  unfold T_is_integer P_is_integer
  exact (sim_ret (sim_andV (sim_cb sim_isi (sim_cons (sim_var 0) (sim_cons (sim_ty _) sim_nil))) (sim_notV (sim_cb sim_isi (sim_cons (sim_var 0) (sim_cons (sim_ty _) sim_nil))))))

theorem q_is_integer : ∀ ds Q E, ps_is_integer ds Q E → ds.length = 1 ∧ P_is_integer { nx := fun _ => Q .non, rt := Q } (startP 1 ds) := by
  rintro _ Q E ⟨w, rfl, q⟩
  refine ⟨rfl, ?_⟩
  unfold P_is_integer startP
  cases w <;> (dsimp only [Wo.d]; walk_at "pk"; exact q)
theorem w_is_integer {K : PySem.W.Frag} {c : CEnv} : Wd (T_is_integer K) N_is_integer 1 (sp_is_integer K c) := wd_lift S_is_integer q_is_integer
/-! same_kind -/
def ps_same_kind : PSp := fun ds Q _ => ∃ (a b : Wo), ds = [a.d, b.d] ∧ Q (.bl (decide (a.k = b.k)))
def sp_same_kind (K : PySem.W.Frag) (c : CEnv) : Sp := lift K c ps_same_kind
theorem b_same_kind {K : PySem.W.Frag} {c : CEnv} : SpSim K c (sp_same_kind K c) ps_same_kind := spSim_lift
abbrev N_same_kind : List Str := ["a", "b"]
-- same_kind(a, b): slots 0:a 1:b
def T_same_kind (K : PySem.W.Frag) : TS :=
    (tRet (tAndV (tOp (uEq K) (tCB (uIsi K) (tCons (tVar 0) (tCons (tC (.ty "bool")) tNil))) (tCB (uIsi K) (tCons (tVar 1) (tCons (tC (.ty "bool")) tNil)))) (tOp (uEq K) (tCB (uIsi K) (tCons (tVar 0) (tCons (tC (.ty "str")) tNil))) (tCB (uIsi K) (tCons (tVar 1) (tCons (tC (.ty "str")) tNil))))))
def P_same_kind : PSt :=
    (pRet (pAndV (pOp pEq (pCB pIsi (pCons (pVar 0) (pCons (pC (.ty "bool")) pNil))) (pCB pIsi (pCons (pVar 1) (pCons (pC (.ty "bool")) pNil)))) (pOp pEq (pCB pIsi (pCons (pVar 0) (pCons (pC (.ty "str")) pNil))) (pCB pIsi (pCons (pVar 1) (pCons (pC (.ty "str")) pNil))))))
theorem S_same_kind {K : PySem.W.Frag} {c : CEnv} : SimS ⟨K, c, W0, fun _ _ => False⟩ (T_same_kind K) (P_same_kind) := by
  unfold T_same_kind P_same_kind
  exact (sim_ret (sim_andV (sim_op sim_eq (sim_cb sim_isi (sim_cons (sim_var 0) (sim_cons (sim_ty _) sim_nil))) (sim_cb sim_isi (sim_cons (sim_var 1) (sim_cons (sim_ty _) sim_nil)))) (sim_op sim_eq (sim_cb sim_isi (sim_cons (sim_var 0) (sim_cons (sim_ty _) sim_nil))) (sim_cb sim_isi (sim_cons (sim_var 1) (sim_cons (sim_ty _) sim_nil))))))

theorem q_same_kind : ∀ ds Q E, ps_same_kind ds Q E → ds.length = 2 ∧ P_same_kind { nx := fun _ => Q .non, rt := Q } (startP 2 ds) := by
  rintro _ Q E ⟨a, b, rfl, q⟩
  refine ⟨rfl, ?_⟩
  unfold P_same_kind startP
  cases a <;> cases b <;> (dsimp only [Wo.d]; walk_at "pk"; first | exact q | (simpa [Wo.k] using q))
theorem w_same_kind {K : PySem.W.Frag} {c : CEnv} : Wd (T_same_kind K) N_same_kind 2 (sp_same_kind K c) := wd_lift S_same_kind q_same_kind

def rangeP (s : Str) (lo hi n : Int) : Bool := if s = "=" then decide (lo ≤ n) && decide (n ≤ hi) else if s = "!=" then !(decide (lo = n) && decide (n = hi)) else if s = "<" then decide (lo < n) else if s = "<=" then decide (lo ≤ n) else if s = ">" then decide (n < hi) else decide (n ≤ hi)
section
variable {lo hi n : Int}
theorem rgP_eq : rangeP "=" lo hi n = (decide (lo ≤ n) && decide (n ≤ hi)) := if_pos rfl
theorem rgP_ne : rangeP "!=" lo hi n = !(decide (lo = n) && decide (n = hi)) := by unfold rangeP; rw [if_neg (by decide), if_pos rfl]
theorem rgP_lt : rangeP "<" lo hi n = decide (lo < n) := by unfold rangeP; rw [if_neg (by decide), if_neg (by decide), if_pos rfl]
theorem rgP_le : rangeP "<=" lo hi n = decide (lo ≤ n) := by unfold rangeP; rw [if_neg (by decide), if_neg (by decide), if_neg (by decide), if_pos rfl]
theorem rgP_gt : rangeP ">" lo hi n = decide (n < hi) := by unfold rangeP; rw [if_neg (by decide), if_neg (by decide), if_neg (by decide), if_neg (by decide), if_pos rfl]
theorem rgP_ge : rangeP ">=" lo hi n = decide (n ≤ hi) := by unfold rangeP; rw [if_neg (by decide), if_neg (by decide), if_neg (by decide), if_neg (by decide), if_neg (by decide)]
end
/-! range_passes -/
def ps_range_passes : PSp := fun ds Q _ => ∃ (s : Str) (lo hi n : Int), ds = [.str s, .int lo, .int hi, .int n] ∧ s ∈ SG ∧ Q (.bl (rangeP s lo hi n))
def sp_range_passes (K : PySem.W.Frag) (c : CEnv) : Sp := lift K c ps_range_passes
theorem b_range_passes {K : PySem.W.Frag} {c : CEnv} : SpSim K c (sp_range_passes K c) ps_range_passes := spSim_lift
abbrev N_range_passes : List Str := ["sign", "low", "high", "worth"]
-- range_passes(sign, low, high, worth): slots 0:sign 1:low 2:high 3:worth
def T_range_passes (K : PySem.W.Frag) : TS :=
    (tSeq (tIfS (tTest (tOp (uEq K) (tVar 0) (tC (.str "=")))) (tRet (tChain uLe uLe (tVar 1) (tVar 3) (tVar 2))) tNext)
    (tSeq (tIfS (tTest (tOp (uEq K) (tVar 0) (tC (.str "!=")))) (tRet (tNotV (tAndV (tOp (uEq K) (tVar 1) (tVar 3)) (tOp (uEq K) (tVar 3) (tVar 2))))) tNext)
    (tSeq (tIfS (tTest (tOp (uEq K) (tVar 0) (tC (.str "<")))) (tRet (tOp (uLt K) (tVar 1) (tVar 3))) tNext)
    (tSeq (tIfS (tTest (tOp (uEq K) (tVar 0) (tC (.str "<=")))) (tRet (tOp uLe (tVar 1) (tVar 3))) tNext)
    (tSeq (tIfS (tTest (tOp (uEq K) (tVar 0) (tC (.str ">")))) (tRet (tOp (uLt K) (tVar 3) (tVar 2))) tNext)
    (tRet (tOp uLe (tVar 3) (tVar 2))))))))
def P_range_passes : PSt :=
    (pSeq (pIfS (pTest (pOp pEq (pVar 0) (pC (.str "=")))) (pRet (pChain pLe pLe (pVar 1) (pVar 3) (pVar 2))) pNext)
    (pSeq (pIfS (pTest (pOp pEq (pVar 0) (pC (.str "!=")))) (pRet (pNotV (pAndV (pOp pEq (pVar 1) (pVar 3)) (pOp pEq (pVar 3) (pVar 2))))) pNext)
    (pSeq (pIfS (pTest (pOp pEq (pVar 0) (pC (.str "<")))) (pRet (pOp pLt (pVar 1) (pVar 3))) pNext)
    (pSeq (pIfS (pTest (pOp pEq (pVar 0) (pC (.str "<=")))) (pRet (pOp pLe (pVar 1) (pVar 3))) pNext)
    (pSeq (pIfS (pTest (pOp pEq (pVar 0) (pC (.str ">")))) (pRet (pOp pLt (pVar 3) (pVar 2))) pNext)
    (pRet (pOp pLe (pVar 3) (pVar 2))))))))
theorem S_range_passes {K : PySem.W.Frag} {c : CEnv} : SimS ⟨K, c, W0, fun _ _ => False⟩ (T_range_passes K) (P_range_passes) := by
  unfold T_range_passes P_range_passes
  exact (sim_seq (sim_ifS (sim_test (sim_op sim_eq (sim_var 0) (sim_str _))) (sim_ret (sim_chain sim_le sim_le (sim_var 1) (sim_var 3) (sim_var 2))) sim_next)
    (sim_seq (sim_ifS (sim_test (sim_op sim_eq (sim_var 0) (sim_str _))) (sim_ret (sim_notV (sim_andV (sim_op sim_eq (sim_var 1) (sim_var 3)) (sim_op sim_eq (sim_var 3) (sim_var 2))))) sim_next)
    (sim_seq (sim_ifS (sim_test (sim_op sim_eq (sim_var 0) (sim_str _))) (sim_ret (sim_op sim_lt (sim_var 1) (sim_var 3))) sim_next)
    (sim_seq (sim_ifS (sim_test (sim_op sim_eq (sim_var 0) (sim_str _))) (sim_ret (sim_op sim_le (sim_var 1) (sim_var 3))) sim_next)
    (sim_seq (sim_ifS (sim_test (sim_op sim_eq (sim_var 0) (sim_str _))) (sim_ret (sim_op sim_lt (sim_var 3) (sim_var 2))) sim_next)
    (sim_ret (sim_op sim_le (sim_var 3) (sim_var 2))))))))

theorem q_range_passes : ∀ ds Q E, ps_range_passes ds Q E → ds.length = 4 ∧ P_range_passes { nx := fun _ => Q .non, rt := Q } (startP 4 ds) := by
  rintro _ Q E ⟨s, lo, hi, n, rfl, hs, q⟩
  refine ⟨rfl, ?_⟩
  unfold P_range_passes startP
  simp only [SG, List.mem_cons, List.not_mem_nil, or_false] at hs
  rcases hs with rfl | rfl | rfl | rfl | rfl | rfl
  · walk_at "pk"
    rw [rgP_eq] at q
    refine z_ite (fun e => ?_) (fun e => ?_)
    · walk_at "pk"; rw [e, Bool.true_and] at q; exact q
    · walk_at "pk"; rw [e, Bool.false_and] at q; exact q
  · walk_at "pk"
    rw [rgP_ne] at q
    refine z_ite (fun e => ?_) (fun e => ?_)
    · walk_at "pk"; rw [e, Bool.true_and] at q; exact q
    · walk_at "pk"; rw [e, Bool.false_and] at q; exact q
  · walk_at "pk"; rw [rgP_lt] at q; exact q
  · walk_at "pk"; rw [rgP_le] at q; exact q
  · walk_at "pk"; rw [rgP_gt] at q; exact q
  · walk_at "pk"; rw [rgP_ge] at q; exact q
theorem w_range_passes {K : PySem.W.Frag} {c : CEnv} : Wd (T_range_passes K) N_range_passes 4 (sp_range_passes K c) := wd_lift S_range_passes q_range_passes

local macro_rules | `(tactic| walk_at "pu") => `(tactic| (with_reducible first | refine p_istr ?_ | refine p_cstT ?_ | refine p_kout ?_ | refine p_kin ?_ | refine p_kst ?_ | refine p_ord ?_ | refine p_izip2 ?_ | refine p_izip3 ?_ | (refine p_zip2 (by first | exact seqL | exact seqT | assumption) (by first | exact seqL | exact seqT | assumption) ?_) | (refine p_zip3 (by first | exact seqL | exact seqT | assumption) (by first | exact seqL | exact seqT | assumption) (by first | exact seqL | exact seqT | assumption) ?_) | (refine p_lenS (by omega) ?_)))
local macro_rules | `(tactic| walk_at "pv") => `(tactic| repeat (first | walk_at "p1" | walk_at "pu"))
local macro_rules | `(tactic| walk_at "pw") => `(tactic| repeat (first | walk_at "p1" | walk_at "pu" | walk_at "pd"))
local macro_rules | `(tactic| walk_at "pb") => `(tactic| (with_reducible first | refine p_ltBi ?_ | refine p_ltBs ?_ | refine p_ltBb ?_ | refine p_leBi ?_ | refine p_leBs ?_ | refine p_leBb ?_ | refine p_isM ?_ | refine p_kix ?_ | refine p_lstRg ?_))
local macro_rules | `(tactic| walk_at "pk") => `(tactic| repeat (first | walk_at "p1" | walk_at "pu" | walk_at "pb" | walk_at "pd" | walk_at "pr"))

/-! conditions on one field, facts about fields -/
inductive Lf where
  | has (f : Str) | cmp (f s : Str) (w : Wo) | one (f : Str) (l : List Wo)
def Lf.f : Lf → Str
  | .has f => f
  | .cmp f _ _ => f
  | .one f _ => f
def Lf.d : Lf → Da
  | .has f => .ins "Has" ["field"] [.str f]
  | .cmp f s w => .ins "Compare" ["field", "sign", "value"] [.str f, .str s, w.d]
  | .one f l => .ins "OneOf" ["field", "choices"] [.str f, .tup (l.map Wo.d)]
def Lf.Ok : Lf → Prop
  | .has _ => True
  | .cmp _ s _ => s ∈ SG
  | .one _ l => l.length ≤ 1000
def Lf.isHas : Lf → Bool
  | .has _ => true
  | _ => false
inductive FF where
  | rg (f : Str) (lo hi : Int) (lack : Str) | vs (f : Str) (l : List Wo) (lack : Str)
def FF.f : FF → Str
  | .rg f _ _ _ => f
  | .vs f _ _ => f
def FF.lack : FF → Str
  | .rg _ _ _ l => l
  | .vs _ _ l => l
def FF.d : FF → Da
  | .rg f lo hi lack => .ins "Range" ["field", "lack", "low", "high"] [.str f, .str lack, .int lo, .int hi]
  | .vs f l lack => .ins "Values" ["field", "lack", "choices"] [.str f, .str lack, .tup (l.map Wo.d)]
def FF.Ok : FF → Prop
  | .rg _ _ _ _ => True
  | .vs _ l _ => l.length ≤ 1000
/-! Has_init -/
def ps_Has_init : PSi := fun ds Q _ => ∃ a, ds = [a] ∧ Q [a]
def sp_Has_init (K : PySem.W.Frag) (c : CEnv) : Sp := liftI K c "Has" ["field"] ps_Has_init
theorem b_Has_init {K : PySem.W.Frag} {c : CEnv} : SpSimI K c "Has" ["field"] (sp_Has_init K c) ps_Has_init := spSimI_lift
abbrev N_Has_init : List Str := ["self", "field"]
-- Has.__init__(self, field): slots 0:self 1:field
def T_Has_init (K : PySem.W.Frag) : TS :=
    (sFld K (tVar 0) (tVar 1) "field")
def P_Has_init : PSt :=
    (pSetF 0 "field" (pVar 1))
theorem S_Has_init {K : PySem.W.Frag} {c : CEnv} : SimS ⟨K, c, W0, fun _ _ => False⟩ (T_Has_init K) (P_Has_init) := by
  unfold T_Has_init P_Has_init
  exact (sim_setF (sim_var 1))

theorem q_Has_init : ∀ ds Q E, ps_Has_init ds Q E → ds.length + 1 = 2 ∧ P_Has_init { nx := endI "Has" ["field"] Q, rt := fun _ => False } (startI "Has" ["field"] 2 ds) := by
  rintro _ Q E ⟨a, rfl, q⟩
  refine ⟨rfl, ?_⟩
  unfold P_Has_init startI startP
  walk_at "pv"
  
  exact ⟨_, rfl, q⟩
theorem w_Has_init {K : PySem.W.Frag} {c : CEnv} : Wd (T_Has_init K) N_Has_init 2 (sp_Has_init K c) := wd_liftI S_Has_init (by decide) q_Has_init
/-! Compare_init -/
def ps_Compare_init : PSi := fun ds Q _ => ∃ a b c, ds = [a, b, c] ∧ Q [a, b, c]
def sp_Compare_init (K : PySem.W.Frag) (c : CEnv) : Sp := liftI K c "Compare" ["field", "sign", "value"] ps_Compare_init
theorem b_Compare_init {K : PySem.W.Frag} {c : CEnv} : SpSimI K c "Compare" ["field", "sign", "value"] (sp_Compare_init K c) ps_Compare_init := spSimI_lift
abbrev N_Compare_init : List Str := ["self", "field", "sign", "value"]
-- Compare.__init__(self, field, sign, value): slots 0:self 1:field 2:sign 3:value
def T_Compare_init (K : PySem.W.Frag) : TS :=
    (tSeq (sFld K (tVar 0) (tVar 1) "field")
    (tSeq (sFld K (tVar 0) (tVar 2) "sign")
    (sFld K (tVar 0) (tVar 3) "value")))
def P_Compare_init : PSt :=
    (pSeq (pSetF 0 "field" (pVar 1))
    (pSeq (pSetF 0 "sign" (pVar 2))
    (pSetF 0 "value" (pVar 3))))
theorem S_Compare_init {K : PySem.W.Frag} {c : CEnv} : SimS ⟨K, c, W0, fun _ _ => False⟩ (T_Compare_init K) (P_Compare_init) := by
  unfold T_Compare_init P_Compare_init
  exact (sim_seq (sim_setF (sim_var 1))
    (sim_seq (sim_setF (sim_var 2))
    (sim_setF (sim_var 3))))

theorem q_Compare_init : ∀ ds Q E, ps_Compare_init ds Q E → ds.length + 1 = 4 ∧ P_Compare_init { nx := endI "Compare" ["field", "sign", "value"] Q, rt := fun _ => False } (startI "Compare" ["field", "sign", "value"] 4 ds) := by
  rintro _ Q E ⟨a, b, c, rfl, q⟩
  refine ⟨rfl, ?_⟩
  unfold P_Compare_init startI startP
  walk_at "pv"
  
  exact ⟨_, rfl, q⟩
theorem w_Compare_init {K : PySem.W.Frag} {c : CEnv} : Wd (T_Compare_init K) N_Compare_init 4 (sp_Compare_init K c) := wd_liftI S_Compare_init (by decide) q_Compare_init
/-! OneOf_init -/
def ps_OneOf_init : PSi := fun ds Q _ => ∃ a v l, ds = [a, v] ∧ seqD v l ∧ Q [a, .tup l]
def sp_OneOf_init (K : PySem.W.Frag) (c : CEnv) : Sp := liftI K c "OneOf" ["field", "choices"] ps_OneOf_init
theorem b_OneOf_init {K : PySem.W.Frag} {c : CEnv} : SpSimI K c "OneOf" ["field", "choices"] (sp_OneOf_init K c) ps_OneOf_init := spSimI_lift
abbrev N_OneOf_init : List Str := ["self", "field", "choices"]
-- OneOf.__init__(self, field, choices): slots 0:self 1:field 2:choices
def T_OneOf_init (K : PySem.W.Frag) : TS :=
    (tSeq (sFld K (tVar 0) (tVar 1) "field")
    (sFld K (tVar 0) (tCB (uTuple K) (tCons (tVar 2) tNil)) "choices"))
def P_OneOf_init : PSt :=
    (pSeq (pSetF 0 "field" (pVar 1))
    (pSetF 0 "choices" (pCB pTuple (pCons (pVar 2) pNil))))
theorem S_OneOf_init {K : PySem.W.Frag} {c : CEnv} : SimS ⟨K, c, W0, fun _ _ => False⟩ (T_OneOf_init K) (P_OneOf_init) := by
  unfold T_OneOf_init P_OneOf_init
  exact (sim_seq (sim_setF (sim_var 1))
    (sim_setF (sim_cb sim_tuple (sim_cons (sim_var 2) sim_nil))))

theorem q_OneOf_init : ∀ ds Q E, ps_OneOf_init ds Q E → ds.length + 1 = 3 ∧ P_OneOf_init { nx := endI "OneOf" ["field", "choices"] Q, rt := fun _ => False } (startI "OneOf" ["field", "choices"] 3 ds) := by
  rintro _ Q E ⟨a, v, l, rfl, sv, q⟩
  refine ⟨rfl, ?_⟩
  unfold P_OneOf_init startI startP
  walk_at "pv"
  refine p_tupleS sv ?_
  walk_at "pv"
  exact ⟨_, rfl, q⟩
theorem w_OneOf_init {K : PySem.W.Frag} {c : CEnv} : Wd (T_OneOf_init K) N_OneOf_init 3 (sp_OneOf_init K c) := wd_liftI S_OneOf_init (by decide) q_OneOf_init
/-! FieldFact.__init__, called through the class -/
abbrev N_FieldFact_init : List Str := ["self", "field", "lack"]
-- FieldFact.__init__(self, field, lack): slots 0:self 1:field 2:lack
def T_FieldFact_init (K : PySem.W.Frag) : TS :=
    (tSeq (sFld K (tVar 0) (tVar 1) "field")
    (sFld K (tVar 0) (tVar 2) "lack"))
abbrev sp_FieldFact_init (K : PySem.W.Frag) (c : CEnv) : Sp := spSup K c ["field", "lack"]
theorem w_FieldFact_init {K : PySem.W.Frag} {c : CEnv} : Wd (T_FieldFact_init K) N_FieldFact_init 3 (sp_FieldFact_init K c) := by
  rintro vs H Q E ⟨x, gs, p, dx, ws, rfl, hl, ok, hc, hp, q⟩
  obtain ⟨a, b, rfl⟩ : ∃ a b, ws = [a, b] := by
    match ws, hl with
    | [a, b], _ => exact ⟨a, b, rfl⟩
  refine ⟨rfl, ?_⟩
  refine ⟨a, rfl, .ref p, rfl, p, _, dx, _, rfl, hp, ok.cl, ok.na _ (hc _ (by simp)), by decide, ?_⟩
  refine ⟨b, rfl, .ref p, rfl, p, _, dx, _, rfl, upd_same, ok.cl, ok.na _ (hc _ (by simp)), by show 1 < 1000; decide, ?_⟩
  rw [upd_upd]
  exact q
/-! Range_init -/
def ps_Range_init : PSi := fun ds Q _ => ∃ f lo hi lack, ds = [f, lo, hi, lack] ∧ Q [f, lack, lo, hi]
def sp_Range_init (K : PySem.W.Frag) (c : CEnv) : Sp := liftI K c "Range" ["field", "lack", "low", "high"] ps_Range_init
theorem b_Range_init {K : PySem.W.Frag} {c : CEnv} : SpSimI K c "Range" ["field", "lack", "low", "high"] (sp_Range_init K c) ps_Range_init := spSimI_lift
abbrev N_Range_init : List Str := ["self", "field", "low", "high", "lack"]
-- Range.__init__(self, field, low, high, lack): slots 0:self 1:field 2:low 3:high 4:lack
def T_Range_init (K : PySem.W.Frag) (c : CEnv) : TS :=
    (tSeq (tDrop (tCal (sp_FieldFact_init K c) (tCons (tVar 0) (tCons (tVar 1) (tCons (tVar 4) tNil)))))
    (tSeq (sFld K (tVar 0) (tVar 2) "low")
    (sFld K (tVar 0) (tVar 3) "high")))
def P_Range_init : PSt :=
    (pSeq (pSup 0 ["field", "lack"] (pCons (pVar 1) (pCons (pVar 4) pNil)))
    (pSeq (pSetF 0 "low" (pVar 2))
    (pSetF 0 "high" (pVar 3))))
theorem S_Range_init {K : PySem.W.Frag} {c : CEnv} : SimS ⟨K, c, W0, fun _ _ => False⟩ (T_Range_init K c) (P_Range_init) := by
  unfold T_Range_init P_Range_init
  exact (sim_seq (sim_sup (sim_cons (sim_var 1) (sim_cons (sim_var 4) sim_nil)))
    (sim_seq (sim_setF (sim_var 2))
    (sim_setF (sim_var 3))))

theorem q_Range_init : ∀ ds Q E, ps_Range_init ds Q E → ds.length + 1 = 5 ∧ P_Range_init { nx := endI "Range" ["field", "lack", "low", "high"] Q, rt := fun _ => False } (startI "Range" ["field", "lack", "low", "high"] 5 ds) := by
  rintro _ Q E ⟨f, lo, hi, lack, rfl, q⟩
  refine ⟨rfl, ?_⟩
  unfold P_Range_init startI startP
  refine p_seq ?_
  refine ⟨_, _, rfl, by decide, ?_⟩
  walk_at "pv"
  refine ⟨rfl, ?_⟩
  walk_at "pv"


  exact ⟨_, rfl, q⟩
theorem w_Range_init {K : PySem.W.Frag} {c : CEnv} : Wd (T_Range_init K c) N_Range_init 5 (sp_Range_init K c) := wd_liftI S_Range_init (by decide) q_Range_init
/-! Values_init -/
def ps_Values_init : PSi := fun ds Q _ => ∃ f v lack l, ds = [f, v, lack] ∧ seqD v l ∧ Q [f, lack, .tup l]
def sp_Values_init (K : PySem.W.Frag) (c : CEnv) : Sp := liftI K c "Values" ["field", "lack", "choices"] ps_Values_init
theorem b_Values_init {K : PySem.W.Frag} {c : CEnv} : SpSimI K c "Values" ["field", "lack", "choices"] (sp_Values_init K c) ps_Values_init := spSimI_lift
abbrev N_Values_init : List Str := ["self", "field", "choices", "lack"]
-- Values.__init__(self, field, choices, lack): slots 0:self 1:field 2:choices 3:lack
def T_Values_init (K : PySem.W.Frag) (c : CEnv) : TS :=
    (tSeq (tDrop (tCal (sp_FieldFact_init K c) (tCons (tVar 0) (tCons (tVar 1) (tCons (tVar 3) tNil)))))
    (sFld K (tVar 0) (tCB (uTuple K) (tCons (tVar 2) tNil)) "choices"))
def P_Values_init : PSt :=
    (pSeq (pSup 0 ["field", "lack"] (pCons (pVar 1) (pCons (pVar 3) pNil)))
    (pSetF 0 "choices" (pCB pTuple (pCons (pVar 2) pNil))))
theorem S_Values_init {K : PySem.W.Frag} {c : CEnv} : SimS ⟨K, c, W0, fun _ _ => False⟩ (T_Values_init K c) (P_Values_init) := by
  unfold T_Values_init P_Values_init
  exact (sim_seq (sim_sup (sim_cons (sim_var 1) (sim_cons (sim_var 3) sim_nil)))
    (sim_setF (sim_cb sim_tuple (sim_cons (sim_var 2) sim_nil))))

theorem q_Values_init : ∀ ds Q E, ps_Values_init ds Q E → ds.length + 1 = 4 ∧ P_Values_init { nx := endI "Values" ["field", "lack", "choices"] Q, rt := fun _ => False } (startI "Values" ["field", "lack", "choices"] 4 ds) := by
  rintro _ Q E ⟨f, v, lack, l, rfl, sv, q⟩
  refine ⟨rfl, ?_⟩
  unfold P_Values_init startI startP
  refine p_seq ?_
  refine ⟨_, _, rfl, by decide, ?_⟩
  walk_at "pv"
  refine ⟨rfl, ?_⟩
  walk_at "pv"

  refine p_tupleS sv ?_
  walk_at "pv"
  exact ⟨_, rfl, q⟩
theorem w_Values_init {K : PySem.W.Frag} {c : CEnv} : Wd (T_Values_init K c) N_Values_init 4 (sp_Values_init K c) := wd_liftI S_Values_init (by decide) q_Values_init

def satL (l : Lf) (w : Wo) : Bool := match l with
  | .has _ => true
  | .cmp _ s v => if w.k = v.k then cmpW s w v else decide (s = "!=")
  | .one _ ws => decide (w ∈ ws)
/-! satisfies -/
def ps_satisfies : PSp := fun ds Q _ => ∃ (l : Lf) (w : Wo), ds = [l.d, w.d] ∧ l.Ok ∧ l.isHas = false ∧ Q (.bl (satL l w))
def sp_satisfies (K : PySem.W.Frag) (c : CEnv) : Sp := lift K c ps_satisfies
theorem b_satisfies {K : PySem.W.Frag} {c : CEnv} : SpSim K c (sp_satisfies K c) ps_satisfies := spSim_lift
abbrev N_satisfies : List Str := ["condition", "worth"]
-- satisfies(condition, worth): slots 0:condition 1:worth
def T_satisfies (K : PySem.W.Frag) (c : CEnv) : TS :=
    (tSeq (tIfS (tTru K (tCB (uIsi K) (tCons (tVar 0) (tCons (tCls K c "OneOf") tNil)))) (tRet (tCal (sp_is_one_of K c) (tCons (tVar 1) (tCons (tFld K (tVar 0) "choices") tNil)))) tNext)
    (tSeq (tIfS (tNot (tTru K (tCal (sp_same_kind K c) (tCons (tVar 1) (tCons (tFld K (tVar 0) "value") tNil))))) (tRet (tOp (uEq K) (tFld K (tVar 0) "sign") (tC (.str "!=")))) tNext)
    (tRet (tCal (sp_compare K c) (tCons (tFld K (tVar 0) "sign") (tCons (tVar 1) (tCons (tFld K (tVar 0) "value") tNil)))))))
def P_satisfies : PSt :=
    (pSeq (pIfS (pTru (pIsC "OneOf" (pVar 0))) (pRet (pCal ps_is_one_of (pCons (pVar 1) (pCons (pFld (pVar 0) "choices") pNil)))) pNext)
    (pSeq (pIfS (pNot (pTru (pCal ps_same_kind (pCons (pVar 1) (pCons (pFld (pVar 0) "value") pNil))))) (pRet (pOp pEq (pFld (pVar 0) "sign") (pC (.str "!=")))) pNext)
    (pRet (pCal ps_compare (pCons (pFld (pVar 0) "sign") (pCons (pVar 1) (pCons (pFld (pVar 0) "value") pNil)))))))
theorem S_satisfies {K : PySem.W.Frag} {c : CEnv} : SimS ⟨K, c, W0, fun _ _ => False⟩ (T_satisfies K c) (P_satisfies) := by
  unfold T_satisfies P_satisfies
  exact (sim_seq (sim_ifS (sim_tru (sim_isC (sim_var 0))) (sim_ret (sim_cal b_is_one_of (sim_cons (sim_var 1) (sim_cons (sim_fld (sim_var 0)) sim_nil)))) sim_next)
    (sim_seq (sim_ifS (sim_not (sim_tru (sim_cal b_same_kind (sim_cons (sim_var 1) (sim_cons (sim_fld (sim_var 0)) sim_nil))))) (sim_ret (sim_op sim_eq (sim_fld (sim_var 0)) (sim_str _))) sim_next)
    (sim_ret (sim_cal b_compare (sim_cons (sim_fld (sim_var 0)) (sim_cons (sim_var 1) (sim_cons (sim_fld (sim_var 0)) sim_nil)))))))

theorem q_satisfies : ∀ ds Q E, ps_satisfies ds Q E → ds.length = 2 ∧ P_satisfies { nx := fun _ => Q .non, rt := Q } (startP 2 ds) := by
  rintro _ Q E ⟨l, w, rfl, ok, nh, q⟩
  refine ⟨rfl, ?_⟩
  cases l with
  | has f => cases nh
  | one f ws =>
    show P_satisfies _ [some (.d (.ins "OneOf" ["field", "choices"] [.str f, .tup (ws.map Wo.d)])), some (.d w.d)]
    unfold P_satisfies
    walk_at "pk"
    exact ⟨w, ws, _, rfl, .inr rfl, ok, q⟩
  | cmp f s v =>
    show P_satisfies _ [some (.d (.ins "Compare" ["field", "sign", "value"] [.str f, .str s, v.d])), some (.d w.d)]
    unfold P_satisfies
    walk_at "pk"
    refine ⟨w, v, rfl, ?_⟩
    simp only [satL] at q
    by_cases e : w.k = v.k
    · rw [if_pos e] at q
      rw [decide_eq_true e]
      walk_at "pk"
      exact ⟨s, w, v, rfl, ok, e, q⟩
    · rw [if_neg e] at q
      rw [decide_eq_false e]
      walk_at "pk"
      exact q
theorem w_satisfies {K : PySem.W.Frag} {c : CEnv} : Wd (T_satisfies K c) N_satisfies 2 (sp_satisfies K c) := wd_lift S_satisfies q_satisfies
/-! is_about -/
def ps_is_about : PSp := fun ds Q _ => ∃ (l : Lf) (f : Str), ds = [l.d, .str f] ∧ Q (.bl (decide (l.f = f)))
def sp_is_about (K : PySem.W.Frag) (c : CEnv) : Sp := lift K c ps_is_about
theorem b_is_about {K : PySem.W.Frag} {c : CEnv} : SpSim K c (sp_is_about K c) ps_is_about := spSim_lift
abbrev N_is_about : List Str := ["condition", "field"]
-- is_about(condition, field): slots 0:condition 1:field
def T_is_about (K : PySem.W.Frag) (c : CEnv) : TS :=
    (tRet (tAndV (tCB (uIsiT K) (tCons (tVar 0) (tCons (tTup (tCons (tCls K c "Has") (tCons (tCls K c "Compare") (tCons (tCls K c "OneOf") tNil)))) tNil))) (tOp (uEq K) (tFld K (tVar 0) "field") (tVar 1))))
def P_is_about : PSt :=
    (pRet (pAndV (pIsM ["Has", "Compare", "OneOf"] (pVar 0)) (pOp pEq (pFld (pVar 0) "field") (pVar 1))))
theorem S_is_about {K : PySem.W.Frag} {c : CEnv} : SimS ⟨K, c, W0, fun _ _ => False⟩ (T_is_about K c) (P_is_about) := by
  unfold T_is_about P_is_about
  exact (sim_ret (sim_andV (sim_isM (by decide) (sim_var 0)) (sim_op sim_eq (sim_fld (sim_var 0)) (sim_var 1))))

theorem q_is_about : ∀ ds Q E, ps_is_about ds Q E → ds.length = 2 ∧ P_is_about { nx := fun _ => Q .non, rt := Q } (startP 2 ds) := by
  rintro _ Q E ⟨l, f, rfl, q⟩
  refine ⟨rfl, ?_⟩
  cases l with
  | has g =>
    show P_is_about _ [some (.d (.ins "Has" ["field"] [.str g])), some (.d (.str f))]
    unfold P_is_about
    walk_at "pk"
    refine p_isMi (b := true) (by decide +kernel) ?_
    walk_at "pk"
    exact q
  | cmp g s v =>
    show P_is_about _ [some (.d (.ins "Compare" ["field", "sign", "value"] [.str g, .str s, v.d])), some (.d (.str f))]
    unfold P_is_about
    walk_at "pk"
    refine p_isMi (b := true) (by decide +kernel) ?_
    walk_at "pk"
    exact q
  | one g ws =>
    show P_is_about _ [some (.d (.ins "OneOf" ["field", "choices"] [.str g, .tup (ws.map Wo.d)])), some (.d (.str f))]
    unfold P_is_about
    walk_at "pk"
    refine p_isMi (b := true) (by decide +kernel) ?_
    walk_at "pk"
    exact q
theorem w_is_about {K : PySem.W.Frag} {c : CEnv} : Wd (T_is_about K c) N_is_about 2 (sp_is_about K c) := wd_lift S_is_about q_is_about

def oppS (s : Str) : Str := if s = "=" then "!=" else if s = "!=" then "=" else if s = "<" then ">=" else if s = "<=" then ">" else if s = ">" then "<=" else "<"
def inRg (lo hi : Int) : Wo → Bool
  | .i n => decide (lo ≤ n) && decide (n ≤ hi)
  | _ => false
/-- what a Range tells of a condition that is not has, where the field is there -/
def presR (lo hi : Int) (l : Lf) : Bool × Bool := match l with
  | .has _ => (true, true)
  | .one _ ws => (decide (0 < (ws.filter (inRg lo hi)).length), true)
  | .cmp _ s (.i n) => (rangeP s lo hi n, rangeP (oppS s) lo hi n)
  | .cmp _ _ _ => (false, true)
def presV (ch : List Wo) (l : Lf) : Bool × Bool := (decide (0 < (ch.filter (satL l)).length), decide ((ch.filter (satL l)).length < ch.length))
def FF.pres : FF → Lf → Bool × Bool
  | .rg _ lo hi _, l => presR lo hi l
  | .vs _ ch _, l => presV ch l
def oppD : List (Str × DV) := [("=", .v (.str "!=")), ("!=", .v (.str "=")), ("<", .v (.str ">=")), ("<=", .v (.str ">")), (">", .v (.str "<=")), (">=", .v (.str "<"))]
theorem opp_lk {s : Str} (h : s ∈ SG) : oppD.lookup s = some (.v (.str (oppS s))) ∧ oppS s ∈ SG := by
  simp only [SG, List.mem_cons, List.not_mem_nil, or_false] at h
  rcases h with rfl | rfl | rfl | rfl | rfl | rfl <;> exact ⟨by with_unfolding_all rfl, by decide +kernel⟩
/-! Range_outcomes_of_present -/
def ps_Range_outcomes_of_present : PSp := fun ds Q _ => ∃ (f lack : Str) (lo hi : Int) (l : Lf), ds = [(FF.rg f lo hi lack).d, l.d] ∧ l.Ok ∧ l.isHas = false ∧ Q (.tup [.bl (presR lo hi l).1, .bl (presR lo hi l).2])
def sp_Range_outcomes_of_present (K : PySem.W.Frag) (c : CEnv) : Sp := lift K c ps_Range_outcomes_of_present
theorem b_Range_outcomes_of_present {K : PySem.W.Frag} {c : CEnv} : SpSim K c (sp_Range_outcomes_of_present K c) ps_Range_outcomes_of_present := spSim_lift
abbrev N_Range_outcomes_of_present : List Str := ["self", "condition", "inside", "choice", "passing"]
-- Range.outcomes_of_present(self, condition): slots 0:self 1:condition 2:inside 3:choice 4:passing
def T_Range_outcomes_of_present (K : PySem.W.Frag) (c : CEnv) : TS :=
    (tSeq (tIfS (tTru K (tCB (uIsi K) (tCons (tVar 1) (tCons (tCls K c "OneOf") tNil)))) (tSeq (tAsg (tLc (iSq K (tFld K (tVar 1) "choices")) (gName 3) (tAnd (tTru K (tCal (sp_is_integer K c) (tCons (tVar 3) tNil))) (tTest (tChain uLe uLe (tFld K (tVar 0) "low") (tVar 3) (tFld K (tVar 0) "high")))) (tVar 3) [3]) (gName 2))
    (tRet (tTup (tCons (tOp uGt (tCB (uLen K) (tCons (tVar 2) tNil)) (tC (.int 0))) (tCons (tC (.bl true)) tNil))))) tNext)
    (tSeq (tIfS (tNot (tTru K (tCal (sp_is_integer K c) (tCons (tFld K (tVar 1) "value") tNil)))) (tRet (tTup (tCons (tC (.bl false)) (tCons (tC (.bl true)) tNil)))) tNext)
    (tSeq (tAsg (tCal (sp_range_passes K c) (tCons (tFld K (tVar 1) "sign") (tCons (tFld K (tVar 0) "low") (tCons (tFld K (tVar 0) "high") (tCons (tFld K (tVar 1) "value") tNil))))) (gName 4))
    (tRet (tTup (tCons (tVar 4) (tCons (tCal (sp_range_passes K c) (tCons (tKix K [("=", .v (.str "!=")), ("!=", .v (.str "=")), ("<", .v (.str ">=")), ("<=", .v (.str ">")), (">", .v (.str "<=")), (">=", .v (.str "<"))] (tFld K (tVar 1) "sign")) (tCons (tFld K (tVar 0) "low") (tCons (tFld K (tVar 0) "high") (tCons (tFld K (tVar 1) "value") tNil))))) tNil)))))))
def P_Range_outcomes_of_present : PSt :=
    (pSeq (pIfS (pTru (pIsC "OneOf" (pVar 1))) (pSeq (pAsg (pLc (piSq (pFld (pVar 1) "choices")) (pgName 3) (pAnd (pTru (pCal ps_is_integer (pCons (pVar 3) pNil))) (pTest (pChain pLe pLe (pFld (pVar 0) "low") (pVar 3) (pFld (pVar 0) "high")))) (pVar 3) [3]) (pgName 2))
    (pRet (pTup (pCons (pOp pGt (pCB pLen (pCons (pVar 2) pNil)) (pC (.int 0))) (pCons (pC (.bl true)) pNil))))) pNext)
    (pSeq (pIfS (pNot (pTru (pCal ps_is_integer (pCons (pFld (pVar 1) "value") pNil)))) (pRet (pTup (pCons (pC (.bl false)) (pCons (pC (.bl true)) pNil)))) pNext)
    (pSeq (pAsg (pCal ps_range_passes (pCons (pFld (pVar 1) "sign") (pCons (pFld (pVar 0) "low") (pCons (pFld (pVar 0) "high") (pCons (pFld (pVar 1) "value") pNil))))) (pgName 4))
    (pRet (pTup (pCons (pVar 4) (pCons (pCal ps_range_passes (pCons (pKix [("=", .v (.str "!=")), ("!=", .v (.str "=")), ("<", .v (.str ">=")), ("<=", .v (.str ">")), (">", .v (.str "<=")), (">=", .v (.str "<"))] (pFld (pVar 1) "sign")) (pCons (pFld (pVar 0) "low") (pCons (pFld (pVar 0) "high") (pCons (pFld (pVar 1) "value") pNil))))) pNil)))))))
theorem S_Range_outcomes_of_present {K : PySem.W.Frag} {c : CEnv} : SimS ⟨K, c, W0, fun _ _ => False⟩ (T_Range_outcomes_of_present K c) (P_Range_outcomes_of_present) := by
  unfold T_Range_outcomes_of_present P_Range_outcomes_of_present
  exact (sim_seq (sim_ifS (sim_tru (sim_isC (sim_var 1))) (sim_seq (sim_asg (sim_lc (sim_iSq (sim_fld (sim_var 1))) (sim_gName 3) (by decide) (sim_and (sim_tru (sim_cal b_is_integer (sim_cons (sim_var 3) sim_nil))) (sim_test (sim_chain sim_le sim_le (sim_fld (sim_var 0)) (sim_var 3) (sim_fld (sim_var 0))))) (sim_var 3)) (sim_gName 2))
    (sim_ret (sim_tup (sim_cons (sim_op sim_gt (sim_cb sim_len (sim_cons (sim_var 2) sim_nil)) (sim_int _)) (sim_cons (sim_bl _) sim_nil))))) sim_next)
    (sim_seq (sim_ifS (sim_not (sim_tru (sim_cal b_is_integer (sim_cons (sim_fld (sim_var 1)) sim_nil)))) (sim_ret (sim_tup (sim_cons (sim_bl _) (sim_cons (sim_bl _) sim_nil)))) sim_next)
    (sim_seq (sim_asg (sim_cal b_range_passes (sim_cons (sim_fld (sim_var 1)) (sim_cons (sim_fld (sim_var 0)) (sim_cons (sim_fld (sim_var 0)) (sim_cons (sim_fld (sim_var 1)) sim_nil))))) (sim_gName 4))
    (sim_ret (sim_tup (sim_cons (sim_var 4) (sim_cons (sim_cal b_range_passes (sim_cons (sim_kix (sim_fld (sim_var 1))) (sim_cons (sim_fld (sim_var 0)) (sim_cons (sim_fld (sim_var 0)) (sim_cons (sim_fld (sim_var 1)) sim_nil))))) sim_nil)))))))

theorem q_Range_outcomes_of_present : ∀ ds Q E, ps_Range_outcomes_of_present ds Q E → ds.length = 2 ∧ P_Range_outcomes_of_present { nx := fun _ => Q .non, rt := Q } (startP 5 ds) := by
  rintro _ Q E ⟨f, lack, lo, hi, l, rfl, ok, nh, q⟩
  refine ⟨rfl, ?_⟩
  cases l with
  | has f => cases nh
  | one g ws =>
    show P_Range_outcomes_of_present _ [some (.d (.ins "Range" ["field", "lack", "low", "high"] [.str f, .str lack, .int lo, .int hi])), some (.d (.ins "OneOf" ["field", "choices"] [.str g, .tup (ws.map Wo.d)])), none, none, none]
    unfold P_Range_outcomes_of_present
    walk_at "pk"
    refine p_filt (g := Wo.d) (inRg lo hi) (Nat.le_trans ok (by decide)) (fun i a k1 k2 ha h1 h2 => ?_) ?_
    · cases a with
      | i n =>
        dsimp only [Wo.d]
        walk_at "pk"
        refine ⟨.i n, rfl, ?_⟩
        walk_at "pk"
        refine z_ite (fun e => ?_) (fun e => ?_)
        · walk_at "pk"
          refine z_ite (fun e2 => (by walk_at "pk"; exact h1 (by simp only [inRg, e, e2]; rfl))) (fun e2 => h2 (by simp only [inRg, e, e2]; rfl))
        · walk_at "pk"
          exact h2 (by simp only [inRg, e]; rfl)
      | s x =>
        dsimp only [Wo.d]
        walk_at "pk"
        refine ⟨.s x, rfl, ?_⟩
        walk_at "pk"
        exact h2 rfl
      | b x =>
        dsimp only [Wo.d]
        walk_at "pk"
        refine ⟨.b x, rfl, ?_⟩
        walk_at "pk"
        exact h2 rfl
    · walk_at "pk"
      simp only [presR] at q
      rw [List.length_map]
      have e : decide ((0 : Int) < (((ws.filter (inRg lo hi)).length : Nat) : Int)) = decide (0 < (ws.filter (inRg lo hi)).length) := decide_eq_decide.mpr (by omega)
      rw [e]
      exact q
  | cmp g s v =>
    obtain ⟨ol, om⟩ := opp_lk ok
    cases v with
    | i n =>
      show P_Range_outcomes_of_present _ [some (.d (.ins "Range" ["field", "lack", "low", "high"] [.str f, .str lack, .int lo, .int hi])), some (.d (.ins "Compare" ["field", "sign", "value"] [.str g, .str s, .int n])), none, none, none]
      unfold P_Range_outcomes_of_present
      walk_at "pk"
      refine ⟨.i n, rfl, ?_⟩
      walk_at "pk"
      refine ⟨s, lo, hi, n, rfl, ok, ?_⟩
      walk_at "pk"
      refine ⟨s, _, rfl, ol, ?_⟩
      walk_at "pk"
      refine ⟨_, lo, hi, n, rfl, om, ?_⟩
      walk_at "pk"
      exact q
    | s x =>
      show P_Range_outcomes_of_present _ [some (.d (.ins "Range" ["field", "lack", "low", "high"] [.str f, .str lack, .int lo, .int hi])), some (.d (.ins "Compare" ["field", "sign", "value"] [.str g, .str s, .str x])), none, none, none]
      unfold P_Range_outcomes_of_present
      walk_at "pk"
      refine ⟨.s x, rfl, ?_⟩
      walk_at "pk"
      exact q
    | b x =>
      show P_Range_outcomes_of_present _ [some (.d (.ins "Range" ["field", "lack", "low", "high"] [.str f, .str lack, .int lo, .int hi])), some (.d (.ins "Compare" ["field", "sign", "value"] [.str g, .str s, .bl x])), none, none, none]
      unfold P_Range_outcomes_of_present
      walk_at "pk"
      refine ⟨.b x, rfl, ?_⟩
      walk_at "pk"
      exact q
theorem w_Range_outcomes_of_present {K : PySem.W.Frag} {c : CEnv} : Wd (T_Range_outcomes_of_present K c) N_Range_outcomes_of_present 2 (sp_Range_outcomes_of_present K c) := wd_lift S_Range_outcomes_of_present q_Range_outcomes_of_present
/-! Values_outcomes_of_present -/
def ps_Values_outcomes_of_present : PSp := fun ds Q _ => ∃ (f lack : Str) (ch : List Wo) (l : Lf), ds = [(FF.vs f ch lack).d, l.d] ∧ ch.length ≤ 1000 ∧ l.Ok ∧ l.isHas = false ∧ Q (.tup [.bl (presV ch l).1, .bl (presV ch l).2])
def sp_Values_outcomes_of_present (K : PySem.W.Frag) (c : CEnv) : Sp := lift K c ps_Values_outcomes_of_present
theorem b_Values_outcomes_of_present {K : PySem.W.Frag} {c : CEnv} : SpSim K c (sp_Values_outcomes_of_present K c) ps_Values_outcomes_of_present := spSim_lift
abbrev N_Values_outcomes_of_present : List Str := ["self", "condition", "satisfying", "choice"]
-- Values.outcomes_of_present(self, condition): slots 0:self 1:condition 2:satisfying 3:choice
def T_Values_outcomes_of_present (K : PySem.W.Frag) (c : CEnv) : TS :=
    (tSeq (tAsg (tLc (iSq K (tFld K (tVar 0) "choices")) (gName 3) (tTru K (tCal (sp_satisfies K c) (tCons (tVar 1) (tCons (tVar 3) tNil)))) (tVar 3) [3]) (gName 2))
    (tRet (tTup (tCons (tOp uGt (tCB (uLen K) (tCons (tVar 2) tNil)) (tC (.int 0))) (tCons (tOp (uLt K) (tCB (uLen K) (tCons (tVar 2) tNil)) (tCB (uLen K) (tCons (tFld K (tVar 0) "choices") tNil))) tNil)))))
def P_Values_outcomes_of_present : PSt :=
    (pSeq (pAsg (pLc (piSq (pFld (pVar 0) "choices")) (pgName 3) (pTru (pCal ps_satisfies (pCons (pVar 1) (pCons (pVar 3) pNil)))) (pVar 3) [3]) (pgName 2))
    (pRet (pTup (pCons (pOp pGt (pCB pLen (pCons (pVar 2) pNil)) (pC (.int 0))) (pCons (pOp pLt (pCB pLen (pCons (pVar 2) pNil)) (pCB pLen (pCons (pFld (pVar 0) "choices") pNil))) pNil)))))
theorem S_Values_outcomes_of_present {K : PySem.W.Frag} {c : CEnv} : SimS ⟨K, c, W0, fun _ _ => False⟩ (T_Values_outcomes_of_present K c) (P_Values_outcomes_of_present) := by
  unfold T_Values_outcomes_of_present P_Values_outcomes_of_present
  exact (sim_seq (sim_asg (sim_lc (sim_iSq (sim_fld (sim_var 0))) (sim_gName 3) (by decide) (sim_tru (sim_cal b_satisfies (sim_cons (sim_var 1) (sim_cons (sim_var 3) sim_nil)))) (sim_var 3)) (sim_gName 2))
    (sim_ret (sim_tup (sim_cons (sim_op sim_gt (sim_cb sim_len (sim_cons (sim_var 2) sim_nil)) (sim_int _)) (sim_cons (sim_op sim_lt (sim_cb sim_len (sim_cons (sim_var 2) sim_nil)) (sim_cb sim_len (sim_cons (sim_fld (sim_var 0)) sim_nil))) sim_nil)))))

theorem q_Values_outcomes_of_present : ∀ ds Q E, ps_Values_outcomes_of_present ds Q E → ds.length = 2 ∧ P_Values_outcomes_of_present { nx := fun _ => Q .non, rt := Q } (startP 4 ds) := by
  rintro _ Q E ⟨f, lack, ch, l, rfl, hc, ok, nh, q⟩
  refine ⟨rfl, ?_⟩
  show P_Values_outcomes_of_present _ [some (.d (.ins "Values" ["field", "lack", "choices"] [.str f, .str lack, .tup (ch.map Wo.d)])), some (.d l.d), none, none]
  unfold P_Values_outcomes_of_present
  walk_at "pk"
  refine p_filt (g := Wo.d) (satL l) (Nat.le_trans hc (by decide)) (fun i a k1 k2 ha h1 h2 => ?_) ?_
  · walk_at "pk"
    refine ⟨l, a, rfl, ok, nh, ?_⟩
    walk_at "pk"
    refine z_ite (fun e => ?_) (fun e => h2 e)
    walk_at "pk"
    exact h1 e
  · walk_at "pk"
    rw [List.length_map, List.length_map]
    have e : decide ((0 : Int) < (((ch.filter (satL l)).length : Nat) : Int)) = decide (0 < (ch.filter (satL l)).length) := decide_eq_decide.mpr (by omega)
    have e2 : decide ((((ch.filter (satL l)).length : Nat) : Int) < ((ch.length : Nat) : Int)) = decide ((ch.filter (satL l)).length < ch.length) := decide_eq_decide.mpr (by omega)
    rw [e, e2]
    exact q
theorem w_Values_outcomes_of_present {K : PySem.W.Frag} {c : CEnv} : Wd (T_Values_outcomes_of_present K c) N_Values_outcomes_of_present 2 (sp_Values_outcomes_of_present K c) := wd_lift S_Values_outcomes_of_present q_Values_outcomes_of_present

/-- what a fact about a field tells of a condition: None, or whether some can pass, whether some can fail -/
def FF.outs (f : FF) (l : Lf) : Option (Bool × Bool) := if l.f = f.f then some (if f.lack = "all" then (false, true) else if l.isHas then (true, decide (f.lack = "some")) else ((f.pres l).1, (f.pres l).2 || decide (f.lack = "some"))) else none
def o2D : Option (Bool × Bool) → Da
  | none => .non
  | some p => .tup [.bl p.1, .bl p.2]
theorem FF.p_field (f : FF) {P : Da → Prop} (h : P (.str f.f)) : ∃ x ks l y, f.d = .ins x ks l ∧ (ks.zip l).lookup ("field" : Str) = some y ∧ P y := by
  cases f <;> exact ⟨_, _, _, _, rfl, by with_unfolding_all rfl, h⟩
theorem FF.p_lack (f : FF) {P : Da → Prop} (h : P (.str f.lack)) : ∃ x ks l y, f.d = .ins x ks l ∧ (ks.zip l).lookup ("lack" : Str) = some y ∧ P y := by
  cases f <;> exact ⟨_, _, _, _, rfl, by with_unfolding_all rfl, h⟩
theorem FF.p_pres {f : FF} {l : Lf} {ρ : PEnv} {Q : Da → Prop} (fo : f.Ok) (ok : l.Ok) (nh : l.isHas = false) (q : Q (.tup [.bl (f.pres l).1, .bl (f.pres l).2])) :
    pAny (pMt "Range" "outcomes_of_present" ps_Range_outcomes_of_present (pVar 0) (pCons (pVar 1) pNil)) (pMt "Values" "outcomes_of_present" ps_Values_outcomes_of_present (pVar 0) (pCons (pVar 1) pNil)) (some (.d f.d) :: some (.d l.d) :: ρ) Q := by
  cases f with
  | rg f lo hi lack =>
    refine p_anyL ?_
    walk_at "pz"
    refine ⟨_, _, rfl, by decide +kernel, ?_⟩
    walk_at "pz"
    exact ⟨f, lack, lo, hi, l, rfl, ok, nh, q⟩
  | vs f ch lack =>
    refine p_anyR ?_
    walk_at "pz"
    refine ⟨_, _, rfl, by decide +kernel, ?_⟩
    walk_at "pz"
    exact ⟨f, lack, ch, l, rfl, fo, ok, nh, q⟩
/-! FieldFact_field_outcomes -/
def ps_FieldFact_field_outcomes : PSp := fun ds Q _ => ∃ (f : FF) (l : Lf), ds = [f.d, l.d] ∧ f.Ok ∧ l.Ok ∧ Q (o2D (f.outs l))
def sp_FieldFact_field_outcomes (K : PySem.W.Frag) (c : CEnv) : Sp := lift K c ps_FieldFact_field_outcomes
theorem b_FieldFact_field_outcomes {K : PySem.W.Frag} {c : CEnv} : SpSim K c (sp_FieldFact_field_outcomes K c) ps_FieldFact_field_outcomes := spSim_lift
abbrev N_FieldFact_field_outcomes : List Str := ["self", "condition", "passing", "failing"]
-- FieldFact.field_outcomes(self, condition): slots 0:self 1:condition 2:passing 3:failing
def T_FieldFact_field_outcomes (K : PySem.W.Frag) (c : CEnv) : TS :=
    (tSeq (tIfS (tNot (tTru K (tCal (sp_is_about K c) (tCons (tVar 1) (tCons (tFld K (tVar 0) "field") tNil))))) (tRet (tC .non)) tNext)
    (tSeq (tIfS (tTest (tOp (uEq K) (tFld K (tVar 0) "lack") (tC (.str "all")))) (tRet (tTup (tCons (tC (.bl false)) (tCons (tC (.bl true)) tNil)))) tNext)
    (tSeq (tIfS (tTru K (tCB (uIsi K) (tCons (tVar 1) (tCons (tCls K c "Has") tNil)))) (tRet (tTup (tCons (tC (.bl true)) (tCons (tOp (uEq K) (tFld K (tVar 0) "lack") (tC (.str "some"))) tNil)))) tNext)
    (tSeq (tAsg (tAny (tMt c "Range" "outcomes_of_present" (sp_Range_outcomes_of_present K c) (tVar 0) (tCons (tVar 1) tNil)) (tMt c "Values" "outcomes_of_present" (sp_Values_outcomes_of_present K c) (tVar 0) (tCons (tVar 1) tNil))) (gTup K 2 (gCons (gName 2) (gCons (gName 3) gNil))))
    (tRet (tTup (tCons (tVar 2) (tCons (tOrV (tVar 3) (tOp (uEq K) (tFld K (tVar 0) "lack") (tC (.str "some")))) tNil))))))))
def P_FieldFact_field_outcomes : PSt :=
    (pSeq (pIfS (pNot (pTru (pCal ps_is_about (pCons (pVar 1) (pCons (pFld (pVar 0) "field") pNil))))) (pRet (pC .non)) pNext)
    (pSeq (pIfS (pTest (pOp pEq (pFld (pVar 0) "lack") (pC (.str "all")))) (pRet (pTup (pCons (pC (.bl false)) (pCons (pC (.bl true)) pNil)))) pNext)
    (pSeq (pIfS (pTru (pIsC "Has" (pVar 1))) (pRet (pTup (pCons (pC (.bl true)) (pCons (pOp pEq (pFld (pVar 0) "lack") (pC (.str "some"))) pNil)))) pNext)
    (pSeq (pAsg (pAny (pMt "Range" "outcomes_of_present" ps_Range_outcomes_of_present (pVar 0) (pCons (pVar 1) pNil)) (pMt "Values" "outcomes_of_present" ps_Values_outcomes_of_present (pVar 0) (pCons (pVar 1) pNil))) (pgTup 2 (pgCons (pgName 2) (pgCons (pgName 3) pgNil))))
    (pRet (pTup (pCons (pVar 2) (pCons (pOrV (pVar 3) (pOp pEq (pFld (pVar 0) "lack") (pC (.str "some")))) pNil))))))))
theorem S_FieldFact_field_outcomes {K : PySem.W.Frag} {c : CEnv} : SimS ⟨K, c, W0, fun _ _ => False⟩ (T_FieldFact_field_outcomes K c) (P_FieldFact_field_outcomes) := by
  unfold T_FieldFact_field_outcomes P_FieldFact_field_outcomes
  exact (sim_seq (sim_ifS (sim_not (sim_tru (sim_cal b_is_about (sim_cons (sim_var 1) (sim_cons (sim_fld (sim_var 0)) sim_nil))))) (sim_ret sim_non) sim_next)
    (sim_seq (sim_ifS (sim_test (sim_op sim_eq (sim_fld (sim_var 0)) (sim_str _))) (sim_ret (sim_tup (sim_cons (sim_bl _) (sim_cons (sim_bl _) sim_nil)))) sim_next)
    (sim_seq (sim_ifS (sim_tru (sim_isC (sim_var 1))) (sim_ret (sim_tup (sim_cons (sim_bl _) (sim_cons (sim_op sim_eq (sim_fld (sim_var 0)) (sim_str _)) sim_nil)))) sim_next)
    (sim_seq (sim_asg (sim_any (sim_mt b_Range_outcomes_of_present (sim_var 0) (sim_cons (sim_var 1) sim_nil)) (sim_mt b_Values_outcomes_of_present (sim_var 0) (sim_cons (sim_var 1) sim_nil))) (sim_gTup (sim_gCons (sim_gName 2) (sim_gCons (sim_gName 3) sim_gNil))))
    (sim_ret (sim_tup (sim_cons (sim_var 2) (sim_cons (sim_orV (sim_var 3) (sim_op sim_eq (sim_fld (sim_var 0)) (sim_str _))) sim_nil))))))))

theorem q_FieldFact_field_outcomes : ∀ ds Q E, ps_FieldFact_field_outcomes ds Q E → ds.length = 2 ∧ P_FieldFact_field_outcomes { nx := fun _ => Q .non, rt := Q } (startP 4 ds) := by
  rintro _ Q E ⟨f, l, rfl, fo, ok, q⟩
  refine ⟨rfl, ?_⟩
  show P_FieldFact_field_outcomes _ [some (.d f.d), some (.d l.d), none, none]
  unfold P_FieldFact_field_outcomes
  walk_at "pk"
  refine f.p_field ?_
  walk_at "pk"
  refine ⟨l, f.f, rfl, ?_⟩
  simp only [FF.outs] at q
  by_cases e : l.f = f.f
  · rw [if_pos e] at q
    rw [decide_eq_true e]
    walk_at "pk"
    refine f.p_lack ?_
    walk_at "pk"
    by_cases e2 : f.lack = "all"
    · rw [if_pos e2] at q
      rw [decide_eq_true e2]
      walk_at "pk"
      exact q
    · rw [if_neg e2] at q
      rw [decide_eq_false e2]
      walk_at "pk"
      have fin : l.isHas = false → (pSeq (pAsg (pAny (pMt "Range" "outcomes_of_present" ps_Range_outcomes_of_present (pVar 0) (pCons (pVar 1) pNil)) (pMt "Values" "outcomes_of_present" ps_Values_outcomes_of_present (pVar 0) (pCons (pVar 1) pNil))) (pgTup 2 (pgCons (pgName 2) (pgCons (pgName 3) pgNil))))
          (pRet (pTup (pCons (pVar 2) (pCons (pOrV (pVar 3) (pOp pEq (pFld (pVar 0) "lack") (pC (.str "some")))) pNil))))) { nx := fun _ => Q .non, rt := Q } [some (.d f.d), some (.d l.d), none, none] := by
        intro nh
        rw [nh, if_neg (by decide)] at q
        walk_at "pz"
        refine FF.p_pres fo ok nh ?_
        walk_at "pz"
        cases e3 : (f.pres l).2 with
        | true =>
          rw [e3, Bool.true_or] at q
          walk_at "pk"
          exact q
        | false =>
          rw [e3, Bool.false_or] at q
          walk_at "pk"
          refine f.p_lack ?_
          walk_at "pk"
          exact q
      cases l with
      | has g =>
        dsimp only [Lf.d]
        walk_at "pk"
        refine f.p_lack ?_
        walk_at "pk"
        exact q
      | cmp g s v =>
        have fin := fin rfl
        dsimp only [Lf.d] at fin ⊢
        walk_at "pk"
        exact fin
      | one g ws =>
        have fin := fin rfl
        dsimp only [Lf.d] at fin ⊢
        walk_at "pk"
        exact fin
  · rw [if_neg e] at q
    rw [decide_eq_false e]
    walk_at "pk"
    exact q
theorem w_FieldFact_field_outcomes {K : PySem.W.Frag} {c : CEnv} : Wd (T_FieldFact_field_outcomes K c) N_FieldFact_field_outcomes 2 (sp_FieldFact_field_outcomes K c) := wd_lift S_FieldFact_field_outcomes q_FieldFact_field_outcomes
/-! Range_outcomes -/
def ps_Range_outcomes : PSp := fun ds Q _ => ∃ (f : FF) (l : Lf), ds = [f.d, l.d] ∧ f.Ok ∧ l.Ok ∧ Q (o2D (f.outs l))
def sp_Range_outcomes (K : PySem.W.Frag) (c : CEnv) : Sp := lift K c ps_Range_outcomes
theorem b_Range_outcomes {K : PySem.W.Frag} {c : CEnv} : SpSim K c (sp_Range_outcomes K c) ps_Range_outcomes := spSim_lift
abbrev N_Range_outcomes : List Str := ["self", "condition"]
-- Range.outcomes(self, condition): slots 0:self 1:condition
def T_Range_outcomes (K : PySem.W.Frag) (c : CEnv) : TS :=
    (tRet (tAny (tMt c "Range" "field_outcomes" (sp_FieldFact_field_outcomes K c) (tVar 0) (tCons (tVar 1) tNil)) (tMt c "Values" "field_outcomes" (sp_FieldFact_field_outcomes K c) (tVar 0) (tCons (tVar 1) tNil))))
def P_Range_outcomes : PSt :=
    (pRet (pAny (pMt "Range" "field_outcomes" ps_FieldFact_field_outcomes (pVar 0) (pCons (pVar 1) pNil)) (pMt "Values" "field_outcomes" ps_FieldFact_field_outcomes (pVar 0) (pCons (pVar 1) pNil))))
theorem S_Range_outcomes {K : PySem.W.Frag} {c : CEnv} : SimS ⟨K, c, W0, fun _ _ => False⟩ (T_Range_outcomes K c) (P_Range_outcomes) := by
  unfold T_Range_outcomes P_Range_outcomes
  exact (sim_ret (sim_any (sim_mt b_FieldFact_field_outcomes (sim_var 0) (sim_cons (sim_var 1) sim_nil)) (sim_mt b_FieldFact_field_outcomes (sim_var 0) (sim_cons (sim_var 1) sim_nil))))

theorem q_Range_outcomes : ∀ ds Q E, ps_Range_outcomes ds Q E → ds.length = 2 ∧ P_Range_outcomes { nx := fun _ => Q .non, rt := Q } (startP 2 ds) := by
  rintro _ Q E ⟨f, l, rfl, fo, ok, q⟩
  refine ⟨rfl, ?_⟩
  show P_Range_outcomes _ [some (.d f.d), some (.d l.d)]
  unfold P_Range_outcomes
  refine p_ret ?_
  cases f with
  | rg f lo hi lack =>
    refine p_anyL ?_
    walk_at "pz"
    refine ⟨_, _, rfl, by decide +kernel, ?_⟩
    walk_at "pz"
    exact ⟨.rg f lo hi lack, l, rfl, fo, ok, q⟩
  | vs f ch lack =>
    refine p_anyR ?_
    walk_at "pz"
    refine ⟨_, _, rfl, by decide +kernel, ?_⟩
    walk_at "pz"
    exact ⟨.vs f ch lack, l, rfl, fo, ok, q⟩
theorem w_Range_outcomes {K : PySem.W.Frag} {c : CEnv} : Wd (T_Range_outcomes K c) N_Range_outcomes 2 (sp_Range_outcomes K c) := wd_lift S_Range_outcomes q_Range_outcomes
/-! Values_outcomes -/
def ps_Values_outcomes : PSp := fun ds Q _ => ∃ (f : FF) (l : Lf), ds = [f.d, l.d] ∧ f.Ok ∧ l.Ok ∧ Q (o2D (f.outs l))
def sp_Values_outcomes (K : PySem.W.Frag) (c : CEnv) : Sp := lift K c ps_Values_outcomes
theorem b_Values_outcomes {K : PySem.W.Frag} {c : CEnv} : SpSim K c (sp_Values_outcomes K c) ps_Values_outcomes := spSim_lift
abbrev N_Values_outcomes : List Str := ["self", "condition"]
-- Values.outcomes(self, condition): slots 0:self 1:condition
def T_Values_outcomes (K : PySem.W.Frag) (c : CEnv) : TS :=
    (tRet (tAny (tMt c "Range" "field_outcomes" (sp_FieldFact_field_outcomes K c) (tVar 0) (tCons (tVar 1) tNil)) (tMt c "Values" "field_outcomes" (sp_FieldFact_field_outcomes K c) (tVar 0) (tCons (tVar 1) tNil))))
def P_Values_outcomes : PSt :=
    (pRet (pAny (pMt "Range" "field_outcomes" ps_FieldFact_field_outcomes (pVar 0) (pCons (pVar 1) pNil)) (pMt "Values" "field_outcomes" ps_FieldFact_field_outcomes (pVar 0) (pCons (pVar 1) pNil))))
theorem S_Values_outcomes {K : PySem.W.Frag} {c : CEnv} : SimS ⟨K, c, W0, fun _ _ => False⟩ (T_Values_outcomes K c) (P_Values_outcomes) := by
  unfold T_Values_outcomes P_Values_outcomes
  exact (sim_ret (sim_any (sim_mt b_FieldFact_field_outcomes (sim_var 0) (sim_cons (sim_var 1) sim_nil)) (sim_mt b_FieldFact_field_outcomes (sim_var 0) (sim_cons (sim_var 1) sim_nil))))

theorem q_Values_outcomes : ∀ ds Q E, ps_Values_outcomes ds Q E → ds.length = 2 ∧ P_Values_outcomes { nx := fun _ => Q .non, rt := Q } (startP 2 ds) := by
  rintro _ Q E ⟨f, l, rfl, fo, ok, q⟩
  refine ⟨rfl, ?_⟩
  show P_Values_outcomes _ [some (.d f.d), some (.d l.d)]
  unfold P_Values_outcomes
  refine p_ret ?_
  cases f with
  | rg f lo hi lack =>
    refine p_anyL ?_
    walk_at "pz"
    refine ⟨_, _, rfl, by decide +kernel, ?_⟩
    walk_at "pz"
    exact ⟨.rg f lo hi lack, l, rfl, fo, ok, q⟩
  | vs f ch lack =>
    refine p_anyR ?_
    walk_at "pz"
    refine ⟨_, _, rfl, by decide +kernel, ?_⟩
    walk_at "pz"
    exact ⟨.vs f ch lack, l, rfl, fo, ok, q⟩
theorem w_Values_outcomes {K : PySem.W.Frag} {c : CEnv} : Wd (T_Values_outcomes K c) N_Values_outcomes 2 (sp_Values_outcomes K c) := wd_lift S_Values_outcomes q_Values_outcomes

local macro_rules | `(tactic| walk_at "pu") => `(tactic| (with_reducible first | refine p_istr ?_ | refine p_cstT ?_ | refine p_kout ?_ | refine p_kin ?_ | refine p_kst ?_ | refine p_ord ?_ | refine p_izip2 ?_ | refine p_izip3 ?_ | (refine p_zip2 (by first | exact seqL | exact seqT | assumption) (by first | exact seqL | exact seqT | assumption) ?_) | (refine p_zip3 (by first | exact seqL | exact seqT | assumption) (by first | exact seqL | exact seqT | assumption) (by first | exact seqL | exact seqT | assumption) ?_) | (refine p_lenS (by omega) ?_)))
local macro_rules | `(tactic| walk_at "pv") => `(tactic| repeat (first | walk_at "p1" | walk_at "pu"))
local macro_rules | `(tactic| walk_at "pw") => `(tactic| repeat (first | walk_at "p1" | walk_at "pu" | walk_at "pd"))
local macro_rules | `(tactic| walk_at "pb") => `(tactic| (with_reducible first | refine p_ltBi ?_ | refine p_ltBs ?_ | refine p_ltBb ?_ | refine p_leBi ?_ | refine p_leBs ?_ | refine p_leBb ?_ | refine p_isM ?_ | refine p_kix ?_ | refine p_lstRg ?_))
local macro_rules | `(tactic| walk_at "pk") => `(tactic| repeat (first | walk_at "p1" | walk_at "pu" | walk_at "pb" | walk_at "pd" | walk_at "pr"))

/-! the law's own rows of facts and conditions -/
def FF.row : FF → Da
  | .rg f lo hi lack => .tup [.str "range", .str f, .int lo, .int hi, .str lack]
  | .vs f l lack => .tup [.str "values", .str f, .lst (l.map Wo.d), .str lack]
def Lf.row : Lf → Da
  | .has f => .tup [.str "has", .str f]
  | .cmp f s w => .tup [.str "compare", .str f, .str s, w.d]
  | .one f l => .tup [.str "in", .str f, .lst (l.map Wo.d)]
/-! law_made -/
def ps_law_made : PSp := fun ds Q _ => ∃ (f : FF), ds = [f.row] ∧ Q f.d
def sp_law_made (K : PySem.W.Frag) (c : CEnv) : Sp := lift K c ps_law_made
theorem b_law_made {K : PySem.W.Frag} {c : CEnv} : SpSim K c (sp_law_made K c) ps_law_made := spSim_lift
abbrev N_law_made : List Str := ["_law_fact", "_law_start", "_law_centre", "_law_radius"]
-- _law_made(_law_fact): slots 0:_law_fact 1:_law_start 2:_law_centre 3:_law_radius
def T_law_made (K : PySem.W.Frag) (c : CEnv) : TS :=
    (tSeq (tIfS (tTest (tOp (uEq K) (tOp (uIx K) (tVar 0) (tC (.int 0))) (tC (.str "parts")))) tNever tNext)
    (tSeq (tIfS (tTest (tOp (uEq K) (tOp (uIx K) (tVar 0) (tC (.int 0))) (tC (.str "cell")))) tNever tNext)
    (tSeq (tIfS (tTest (tOp (uEq K) (tOp (uIx K) (tVar 0) (tC (.int 0))) (tC (.str "box")))) tNever tNext)
    (tSeq (tIfS (tTest (tOp (uEq K) (tOp (uIx K) (tVar 0) (tC (.int 0))) (tC (.str "norms")))) tNever tNext)
    (tSeq (tIfS (tTest (tOp (uEq K) (tOp (uIx K) (tVar 0) (tC (.int 0))) (tC (.str "differ")))) tNever tNext)
    (tSeq (tIfS (tTest (tOp (uEq K) (tOp (uIx K) (tVar 0) (tC (.int 0))) (tC (.str "range")))) (tRet (tMkK K c "Range" ["field", "lack", "low", "high"] 3 1 [] [(true, 0)] (sp_Range_init K c) W0 (tCons (tOp (uIx K) (tVar 0) (tC (.int 1))) (tCons (tOp (uIx K) (tVar 0) (tC (.int 2))) (tCons (tOp (uIx K) (tVar 0) (tC (.int 3))) tNil))) (tCons (tOp (uIx K) (tVar 0) (tC (.int 4))) tNil))) tNext)
    (tSeq (tIfS (tTest (tOp (uEq K) (tOp (uIx K) (tVar 0) (tC (.int 0))) (tC (.str "values")))) (tRet (tMkK K c "Values" ["field", "lack", "choices"] 2 1 [] [(true, 0)] (sp_Values_init K c) W0 (tCons (tOp (uIx K) (tVar 0) (tC (.int 1))) (tCons (tCB (uList K) (tCons (tOp (uIx K) (tVar 0) (tC (.int 2))) tNil)) tNil)) (tCons (tOp (uIx K) (tVar 0) (tC (.int 3))) tNil))) tNext)
    (tSeq (tIfS (tTest (tOp (uEq K) (tOp (uIx K) (tVar 0) (tC (.int 0))) (tC (.str "counts")))) tNever tNext)
    tNever))))))))
def P_law_made : PSt :=
    (pSeq (pIfS (pTest (pOp pEq (pOp pIx (pVar 0) (pC (.int 0))) (pC (.str "parts")))) pNever pNext)
    (pSeq (pIfS (pTest (pOp pEq (pOp pIx (pVar 0) (pC (.int 0))) (pC (.str "cell")))) pNever pNext)
    (pSeq (pIfS (pTest (pOp pEq (pOp pIx (pVar 0) (pC (.int 0))) (pC (.str "box")))) pNever pNext)
    (pSeq (pIfS (pTest (pOp pEq (pOp pIx (pVar 0) (pC (.int 0))) (pC (.str "norms")))) pNever pNext)
    (pSeq (pIfS (pTest (pOp pEq (pOp pIx (pVar 0) (pC (.int 0))) (pC (.str "differ")))) pNever pNext)
    (pSeq (pIfS (pTest (pOp pEq (pOp pIx (pVar 0) (pC (.int 0))) (pC (.str "range")))) (pRet (pMkK (fun _ _ => False) "Range" ["field", "lack", "low", "high"] 3 1 [] [(true, 0)] ps_Range_init (pCons (pOp pIx (pVar 0) (pC (.int 1))) (pCons (pOp pIx (pVar 0) (pC (.int 2))) (pCons (pOp pIx (pVar 0) (pC (.int 3))) pNil))) (pCons (pOp pIx (pVar 0) (pC (.int 4))) pNil))) pNext)
    (pSeq (pIfS (pTest (pOp pEq (pOp pIx (pVar 0) (pC (.int 0))) (pC (.str "values")))) (pRet (pMkK (fun _ _ => False) "Values" ["field", "lack", "choices"] 2 1 [] [(true, 0)] ps_Values_init (pCons (pOp pIx (pVar 0) (pC (.int 1))) (pCons (pCB pList (pCons (pOp pIx (pVar 0) (pC (.int 2))) pNil)) pNil)) (pCons (pOp pIx (pVar 0) (pC (.int 3))) pNil))) pNext)
    (pSeq (pIfS (pTest (pOp pEq (pOp pIx (pVar 0) (pC (.int 0))) (pC (.str "counts")))) pNever pNext)
    pNever))))))))
theorem S_law_made {K : PySem.W.Frag} {c : CEnv} : SimS ⟨K, c, W0, fun _ _ => False⟩ (T_law_made K c) (P_law_made) := by
  unfold T_law_made P_law_made
  exact (sim_seq (sim_ifS (sim_test (sim_op sim_eq (sim_op sim_ix (sim_var 0) (sim_int _)) (sim_str _))) sim_never sim_next)
    (sim_seq (sim_ifS (sim_test (sim_op sim_eq (sim_op sim_ix (sim_var 0) (sim_int _)) (sim_str _))) sim_never sim_next)
    (sim_seq (sim_ifS (sim_test (sim_op sim_eq (sim_op sim_ix (sim_var 0) (sim_int _)) (sim_str _))) sim_never sim_next)
    (sim_seq (sim_ifS (sim_test (sim_op sim_eq (sim_op sim_ix (sim_var 0) (sim_int _)) (sim_str _))) sim_never sim_next)
    (sim_seq (sim_ifS (sim_test (sim_op sim_eq (sim_op sim_ix (sim_var 0) (sim_int _)) (sim_str _))) sim_never sim_next)
    (sim_seq (sim_ifS (sim_test (sim_op sim_eq (sim_op sim_ix (sim_var 0) (sim_int _)) (sim_str _))) (sim_ret (sim_mkK b_Range_init (sim_cons (sim_op sim_ix (sim_var 0) (sim_int _)) (sim_cons (sim_op sim_ix (sim_var 0) (sim_int _)) (sim_cons (sim_op sim_ix (sim_var 0) (sim_int _)) sim_nil))) (sim_cons (sim_op sim_ix (sim_var 0) (sim_int _)) sim_nil))) sim_next)
    (sim_seq (sim_ifS (sim_test (sim_op sim_eq (sim_op sim_ix (sim_var 0) (sim_int _)) (sim_str _))) (sim_ret (sim_mkK b_Values_init (sim_cons (sim_op sim_ix (sim_var 0) (sim_int _)) (sim_cons (sim_cb sim_list (sim_cons (sim_op sim_ix (sim_var 0) (sim_int _)) sim_nil)) sim_nil)) (sim_cons (sim_op sim_ix (sim_var 0) (sim_int _)) sim_nil))) sim_next)
    (sim_seq (sim_ifS (sim_test (sim_op sim_eq (sim_op sim_ix (sim_var 0) (sim_int _)) (sim_str _))) sim_never sim_next)
    sim_never))))))))

theorem q_law_made : ∀ ds Q E, ps_law_made ds Q E → ds.length = 1 ∧ P_law_made { nx := fun _ => Q .non, rt := Q } (startP 4 ds) := by
  rintro _ Q E ⟨f, rfl, q⟩
  refine ⟨rfl, ?_⟩
  cases f with
  | rg f lo hi lack =>
    show P_law_made _ [some (.d (.tup [.str "range", .str f, .int lo, .int hi, .str lack])), none, none, none]
    unfold P_law_made
    walk_at "pk"
    refine ⟨rfl, rfl, ?_⟩
    exact ⟨_, _, _, _, rfl, q⟩
  | vs f l lack =>
    show P_law_made _ [some (.d (.tup [.str "values", .str f, .lst (l.map Wo.d), .str lack])), none, none, none]
    unfold P_law_made
    walk_at "pk"
    refine ⟨rfl, rfl, ?_⟩
    exact ⟨_, _, _, _, rfl, .inl rfl, q⟩
theorem w_law_made {K : PySem.W.Frag} {c : CEnv} : Wd (T_law_made K c) N_law_made 1 (sp_law_made K c) := wd_lift S_law_made q_law_made
/-! law_compares -/
def ps_law_compares : PSp := fun ds Q _ => ∃ (s : Str) (a b : Wo), ds = [.str s, a.d, b.d] ∧ s ∈ SG ∧ a.k = b.k ∧ Q (.bl (cmpW s a b))
def sp_law_compares (K : PySem.W.Frag) (c : CEnv) : Sp := lift K c ps_law_compares
theorem b_law_compares {K : PySem.W.Frag} {c : CEnv} : SpSim K c (sp_law_compares K c) ps_law_compares := spSim_lift
abbrev N_law_compares : List Str := ["_law_sign", "_law_a", "_law_b"]
-- _law_compares(_law_sign, _law_a, _law_b): slots 0:_law_sign 1:_law_a 2:_law_b
def T_law_compares (K : PySem.W.Frag) : TS :=
    (tSeq (tIfS (tTest (tOp (uEq K) (tVar 0) (tC (.str "=")))) (tRet (tOp (uEq K) (tVar 1) (tVar 2))) tNext)
    (tSeq (tIfS (tTest (tOp (uEq K) (tVar 0) (tC (.str "!=")))) (tRet (tOp (uNe K) (tVar 1) (tVar 2))) tNext)
    (tSeq (tIfS (tTest (tOp (uEq K) (tVar 0) (tC (.str "<")))) (tRet (tOp (uLtB K) (tVar 1) (tVar 2))) tNext)
    (tSeq (tIfS (tTest (tOp (uEq K) (tVar 0) (tC (.str "<=")))) (tRet (tOp uLeB (tVar 1) (tVar 2))) tNext)
    (tSeq (tIfS (tTest (tOp (uEq K) (tVar 0) (tC (.str ">")))) (tRet (tOp (uLtB K) (tVar 2) (tVar 1))) tNext)
    (tRet (tOp uLeB (tVar 2) (tVar 1))))))))
def P_law_compares : PSt :=
    (pSeq (pIfS (pTest (pOp pEq (pVar 0) (pC (.str "=")))) (pRet (pOp pEq (pVar 1) (pVar 2))) pNext)
    (pSeq (pIfS (pTest (pOp pEq (pVar 0) (pC (.str "!=")))) (pRet (pOp pNe (pVar 1) (pVar 2))) pNext)
    (pSeq (pIfS (pTest (pOp pEq (pVar 0) (pC (.str "<")))) (pRet (pOp pLtB (pVar 1) (pVar 2))) pNext)
    (pSeq (pIfS (pTest (pOp pEq (pVar 0) (pC (.str "<=")))) (pRet (pOp pLeB (pVar 1) (pVar 2))) pNext)
    (pSeq (pIfS (pTest (pOp pEq (pVar 0) (pC (.str ">")))) (pRet (pOp pLtB (pVar 2) (pVar 1))) pNext)
    (pRet (pOp pLeB (pVar 2) (pVar 1))))))))
theorem S_law_compares {K : PySem.W.Frag} {c : CEnv} : SimS ⟨K, c, W0, fun _ _ => False⟩ (T_law_compares K) (P_law_compares) := by
  unfold T_law_compares P_law_compares
  exact (sim_seq (sim_ifS (sim_test (sim_op sim_eq (sim_var 0) (sim_str _))) (sim_ret (sim_op sim_eq (sim_var 1) (sim_var 2))) sim_next)
    (sim_seq (sim_ifS (sim_test (sim_op sim_eq (sim_var 0) (sim_str _))) (sim_ret (sim_op sim_ne (sim_var 1) (sim_var 2))) sim_next)
    (sim_seq (sim_ifS (sim_test (sim_op sim_eq (sim_var 0) (sim_str _))) (sim_ret (sim_op sim_ltB (sim_var 1) (sim_var 2))) sim_next)
    (sim_seq (sim_ifS (sim_test (sim_op sim_eq (sim_var 0) (sim_str _))) (sim_ret (sim_op sim_leB (sim_var 1) (sim_var 2))) sim_next)
    (sim_seq (sim_ifS (sim_test (sim_op sim_eq (sim_var 0) (sim_str _))) (sim_ret (sim_op sim_ltB (sim_var 2) (sim_var 1))) sim_next)
    (sim_ret (sim_op sim_leB (sim_var 2) (sim_var 1))))))))

theorem q_law_compares : ∀ ds Q E, ps_law_compares ds Q E → ds.length = 3 ∧ P_law_compares { nx := fun _ => Q .non, rt := Q } (startP 3 ds) := by
  rintro _ Q E ⟨s, a, b, rfl, hs, hk, q⟩
  refine ⟨rfl, ?_⟩
  unfold P_law_compares startP
  simp only [SG, List.mem_cons, List.not_mem_nil, or_false] at hs
  rcases hs with rfl | rfl | rfl | rfl | rfl | rfl <;> cases a <;> cases b <;> first | exact absurd hk (by simp only [Wo.k]; decide) | skip
  all_goals (dsimp only [Wo.d]; walk_at "pk")
  all_goals first | (simp only [cmpW_eq, cmpW_ne, cmpW_lt, cmpW_le, cmpW_gt, cmpW_ge, ltW, leW, Wo.i.injEq, Wo.s.injEq, Wo.b.injEq] at q; exact q) | exact q
theorem w_law_compares {K : PySem.W.Frag} {c : CEnv} : Wd (T_law_compares K) N_law_compares 3 (sp_law_compares K c) := wd_lift S_law_compares q_law_compares

theorem inD_wo {w : Wo} : ∀ {l : List Wo}, (∀ x ∈ l, x.k = w.k) → inD w.d (l.map Wo.d) = decide (w ∈ l)
  | [], _ => by simp [inD]
  | x :: l, h => by
    have ih := inD_wo (w := w) (l := l) fun y hy => h y (List.mem_cons_of_mem _ hy)
    have hx := h x (List.mem_cons_self ..)
    unfold inD at ih ⊢
    rw [List.map_cons, List.any_cons, ih]
    have e : eqD x.d w.d = decide (w = x) := by
      cases x <;> cases w <;> first | (exact absurd hx (by simp only [Wo.k]; decide)) | (simp [Wo.d, eqD, eq0, eq_comm])
    rw [e]
    by_cases a : w = x <;> by_cases b : w ∈ l <;> simp [a, b]
theorem fl_wos {l : List Wo} : (l.map Wo.d).all flD = true := by simp [List.all_eq_true, fl_wo]
def Lf.Kd (k : Nat) : Lf → Prop
  | .has _ => True
  | .cmp _ _ w => w.k = k
  | .one _ l => ∀ w ∈ l, w.k = k
def FF.Kd (k : Nat) : FF → Prop
  | .rg _ _ _ _ => k = 0
  | .vs _ l _ => ∀ w ∈ l, w.k = k
theorem p_inW {w : Wo} {l : List Wo} {Q : Da → Prop} (h : ∀ x ∈ l, x.k = w.k) (q : Q (.bl (decide (w ∈ l)))) : pIn w.d (.lst (l.map Wo.d)) Q := by
  have z : flD w.d = true ∧ (l.map Wo.d).all flD = true ∧ Q (.bl (inD w.d (l.map Wo.d))) := ⟨fl_wo, fl_wos, by rw [inD_wo h]; exact q⟩
  cases w <;> exact z
/-! law_worth_passes -/
def ps_law_worth_passes : PSp := fun ds Q _ => ∃ (l : Lf) (w : Wo), ds = [l.row, w.d] ∧ l.Ok ∧ l.isHas = false ∧ l.Kd w.k ∧ Q (.bl (satL l w))
def sp_law_worth_passes (K : PySem.W.Frag) (c : CEnv) : Sp := lift K c ps_law_worth_passes
theorem b_law_worth_passes {K : PySem.W.Frag} {c : CEnv} : SpSim K c (sp_law_worth_passes K c) ps_law_worth_passes := spSim_lift
abbrev N_law_worth_passes : List Str := ["_law_tree", "_law_worth"]
-- _law_worth_passes(_law_tree, _law_worth): slots 0:_law_tree 1:_law_worth
def T_law_worth_passes (K : PySem.W.Frag) (c : CEnv) : TS :=
    (tSeq (tIfS (tTest (tOp (uEq K) (tOp (uIx K) (tVar 0) (tC (.int 0))) (tC (.str "in")))) (tRet (tOp (uIn K) (tVar 1) (tOp (uIx K) (tVar 0) (tC (.int 2))))) tNext)
    (tRet (tCal (sp_law_compares K c) (tCons (tOp (uIx K) (tVar 0) (tC (.int 2))) (tCons (tVar 1) (tCons (tOp (uIx K) (tVar 0) (tC (.int 3))) tNil))))))
def P_law_worth_passes : PSt :=
    (pSeq (pIfS (pTest (pOp pEq (pOp pIx (pVar 0) (pC (.int 0))) (pC (.str "in")))) (pRet (pOp pIn (pVar 1) (pOp pIx (pVar 0) (pC (.int 2))))) pNext)
    (pRet (pCal ps_law_compares (pCons (pOp pIx (pVar 0) (pC (.int 2))) (pCons (pVar 1) (pCons (pOp pIx (pVar 0) (pC (.int 3))) pNil))))))
theorem S_law_worth_passes {K : PySem.W.Frag} {c : CEnv} : SimS ⟨K, c, W0, fun _ _ => False⟩ (T_law_worth_passes K c) (P_law_worth_passes) := by
  unfold T_law_worth_passes P_law_worth_passes
  exact (sim_seq (sim_ifS (sim_test (sim_op sim_eq (sim_op sim_ix (sim_var 0) (sim_int _)) (sim_str _))) (sim_ret (sim_op sim_in (sim_var 1) (sim_op sim_ix (sim_var 0) (sim_int _)))) sim_next)
    (sim_ret (sim_cal b_law_compares (sim_cons (sim_op sim_ix (sim_var 0) (sim_int _)) (sim_cons (sim_var 1) (sim_cons (sim_op sim_ix (sim_var 0) (sim_int _)) sim_nil))))))

theorem q_law_worth_passes : ∀ ds Q E, ps_law_worth_passes ds Q E → ds.length = 2 ∧ P_law_worth_passes { nx := fun _ => Q .non, rt := Q } (startP 2 ds) := by
  rintro _ Q E ⟨l, w, rfl, ok, nh, kd, q⟩
  refine ⟨rfl, ?_⟩
  cases l with
  | has f => cases nh
  | cmp f s v =>
    show P_law_worth_passes _ [some (.d (.tup [.str "compare", .str f, .str s, v.d])), some (.d w.d)]
    unfold P_law_worth_passes
    walk_at "pk"
    have kd : w.k = v.k := (show v.k = w.k from kd).symm
    simp only [satL] at q
    rw [if_pos kd] at q
    exact ⟨s, w, v, rfl, ok, kd, q⟩
  | one f l =>
    show P_law_worth_passes _ [some (.d (.tup [.str "in", .str f, .lst (l.map Wo.d)])), some (.d w.d)]
    unfold P_law_worth_passes
    walk_at "pk"
    exact p_inW kd q
theorem w_law_worth_passes {K : PySem.W.Frag} {c : CEnv} : Wd (T_law_worth_passes K c) N_law_worth_passes 2 (sp_law_worth_passes K c) := wd_lift S_law_worth_passes q_law_worth_passes

def rgW (lo hi : Int) : List Wo := (List.range (hi + 1 - lo).toNat).map fun i => Wo.i (lo + (i : Nat))
theorem rgW_d {lo hi : Int} : rgD lo (hi + 1) = (rgW lo hi).map Wo.d := by unfold rgD rgW; rw [List.map_map]; rfl
theorem mem_rgW {lo hi : Int} {w : Wo} : w ∈ rgW lo hi ↔ ∃ n, w = .i n ∧ lo ≤ n ∧ n ≤ hi := by
  unfold rgW
  rw [List.mem_map]
  constructor
  · rintro ⟨i, hi', rfl⟩
    have := List.mem_range.mp hi'
    exact ⟨_, rfl, by omega, by omega⟩
  · rintro ⟨n, rfl, a, b⟩
    exact ⟨(n - lo).toNat, List.mem_range.mpr (by omega), by rw [show lo + ((n - lo).toNat : Int) = n by omega]⟩
def FF.wos : FF → List Wo
  | .rg _ lo hi _ => rgW lo hi
  | .vs _ l _ => l
def FF.LOk : FF → Prop
  | .rg _ lo hi _ => -100 ≤ lo ∧ lo ≤ hi ∧ hi ≤ 100
  | .vs _ l _ => l.length ≤ 100
theorem pos_filter {α : Type} {p : α → Bool} {l : List α} : decide (0 < (l.filter p).length) = l.any p := by
  rw [Bool.eq_iff_iff, decide_eq_true_iff, List.length_pos_iff_exists_mem, List.any_eq_true]
  simp [List.mem_filter]
theorem lt_filter {α : Type} {p : α → Bool} : ∀ {l : List α}, decide ((l.filter p).length < l.length) = l.any fun x => !p x
  | [] => rfl
  | x :: l => by
    have ih := lt_filter (p := p) (l := l)
    rw [List.any_cons, ← ih]
    cases e : p x with
    | true => rw [List.filter_cons_of_pos e, List.length_cons, List.length_cons]; simp
    | false =>
      rw [List.filter_cons_of_neg (by simp [e]), List.length_cons]
      have := List.length_filter_le p l
      simp; omega
theorem any_rg {lo hi : Int} {p : Wo → Bool} {b : Bool} (h : b = true ↔ ∃ n, lo ≤ n ∧ n ≤ hi ∧ p (.i n) = true) : (rgW lo hi).any p = b := by
  rw [Bool.eq_iff_iff, List.any_eq_true, h]
  constructor
  · rintro ⟨w, hw, e⟩
    obtain ⟨n, rfl, a, c⟩ := mem_rgW.mp hw
    exact ⟨n, a, c, e⟩
  · rintro ⟨n, a, c, e⟩
    exact ⟨_, mem_rgW.mpr ⟨n, rfl, a, c⟩, e⟩
theorem cmp_rg {lo hi n : Int} {s : Str} (hs : s ∈ SG) (hl : lo ≤ hi) : rangeP s lo hi n = true ↔ ∃ m, lo ≤ m ∧ m ≤ hi ∧ cmpW s (.i m) (.i n) = true := by
  simp only [SG, List.mem_cons, List.not_mem_nil, or_false] at hs
  rcases hs with rfl | rfl | rfl | rfl | rfl | rfl
  · simp only [rgP_eq, cmpW_eq, Bool.and_eq_true, decide_eq_true_eq, Wo.i.injEq]
    exact ⟨fun h => ⟨n, h.1, h.2, rfl⟩, fun ⟨m, a, b, e⟩ => e ▸ ⟨a, b⟩⟩
  · simp only [rgP_ne, cmpW_ne, Bool.not_eq_true', Bool.and_eq_false_iff, decide_eq_false_iff_not, Wo.i.injEq]
    constructor
    · rintro (h | h)
      · exact ⟨lo, by omega, by omega, h⟩
      · exact ⟨hi, by omega, by omega, fun e => h e.symm⟩
    · rintro ⟨m, a, b, e⟩
      omega
  · simp only [rgP_lt, cmpW_lt, ltW, decide_eq_true_eq]
    exact ⟨fun h => ⟨lo, by omega, by omega, h⟩, fun ⟨m, a, b, e⟩ => by omega⟩
  · simp only [rgP_le, cmpW_le, leW, decide_eq_true_eq]
    exact ⟨fun h => ⟨lo, by omega, by omega, h⟩, fun ⟨m, a, b, e⟩ => by omega⟩
  · simp only [rgP_gt, cmpW_gt, ltW, decide_eq_true_eq]
    exact ⟨fun h => ⟨hi, by omega, by omega, h⟩, fun ⟨m, a, b, e⟩ => by omega⟩
  · simp only [rgP_ge, cmpW_ge, leW, decide_eq_true_eq]
    exact ⟨fun h => ⟨hi, by omega, by omega, h⟩, fun ⟨m, a, b, e⟩ => by omega⟩
theorem opp_cmp {s : Str} {m n : Int} (hs : s ∈ SG) : cmpW (oppS s) (.i m) (.i n) = !cmpW s (.i m) (.i n) := by
  simp only [SG, List.mem_cons, List.not_mem_nil, or_false] at hs
  rcases hs with rfl | rfl | rfl | rfl | rfl | rfl
  · rw [show oppS "=" = "!=" by decide +kernel, cmpW_ne, cmpW_eq]
  · rw [show oppS "!=" = "=" by decide +kernel, cmpW_ne, cmpW_eq, Bool.not_not]
  · rw [show oppS "<" = ">=" by decide +kernel, cmpW_lt, cmpW_ge]; simp only [ltW, leW]; rw [Bool.eq_iff_iff]; simp
  · rw [show oppS "<=" = ">" by decide +kernel, cmpW_le, cmpW_gt]; simp only [ltW, leW]; rw [Bool.eq_iff_iff]; simp
  · rw [show oppS ">" = "<=" by decide +kernel, cmpW_gt, cmpW_le]; simp only [ltW, leW]; rw [Bool.eq_iff_iff]; simp
  · rw [show oppS ">=" = "<" by decide +kernel, cmpW_ge, cmpW_lt]; simp only [ltW, leW]; rw [Bool.eq_iff_iff]; simp
def Lf.isOne : Lf → Bool
  | .one _ _ => true
  | _ => false
def FF.isRg : FF → Bool
  | .rg _ _ _ _ => true
  | _ => false
/-- what the law counts is what the facts tell -/
theorem pres_law {f : FF} {l : Lf} {k : Nat} (lo : f.LOk) (ok : l.Ok) (nh : l.isHas = false) (fk : f.Kd k) (lk : l.Kd k) :
    (f.pres l).1 = decide (0 < (f.wos.filter (satL l)).length) ∧ (f.pres l).2 = (decide (0 < (f.wos.filter fun w => !satL l w).length) || (f.isRg && l.isOne)) := by
  rw [pos_filter, pos_filter]
  cases f with
  | rg f a b lack =>
    obtain rfl : k = 0 := fk
    cases l with
    | has g => cases nh
    | one g ws =>
      refine ⟨?_, by simp [FF.pres, presR, FF.isRg, Lf.isOne]⟩
      show decide (0 < (ws.filter (inRg a b)).length) = (rgW a b).any _
      rw [pos_filter]
      refine (any_rg ?_).symm
      rw [List.any_eq_true]
      constructor
      · rintro ⟨w, hw, e⟩
        cases w with
        | i n =>
          simp only [inRg, Bool.and_eq_true, decide_eq_true_eq] at e
          exact ⟨n, e.1, e.2, decide_eq_true hw⟩
        | _ => cases e
      · rintro ⟨n, x, y, e⟩
        exact ⟨.i n, of_decide_eq_true e, by simp [inRg, x, y]⟩
    | cmp g s v =>
      have kv : v.k = 0 := lk
      cases v with
      | s x => cases kv
      | b x => cases kv
      | i n =>
        have e1 : ∀ m, satL (.cmp g s (.i n)) (.i m) = cmpW s (.i m) (.i n) := fun m => by simp [satL, Wo.k]
        obtain ⟨_, om⟩ := opp_lk ok
        refine ⟨(any_rg ?_).symm, ?_⟩
        · refine (cmp_rg ok lo.2.1).trans ?_
          simp only [e1]
        · rw [show (Lf.cmp g s (.i n)).isOne = false from rfl, Bool.and_false, Bool.or_false]
          refine (any_rg ?_).symm
          refine (cmp_rg om lo.2.1).trans ?_
          simp only [e1, opp_cmp ok]
  | vs f ch lack =>
    refine ⟨pos_filter, ?_⟩
    rw [show (FF.vs f ch lack).isRg = false from rfl, Bool.false_and, Bool.or_false]
    exact lt_filter

local macro_rules | `(tactic| walk_at "pu") => `(tactic| (with_reducible first | refine p_istr ?_ | refine p_cstT ?_ | refine p_kout ?_ | refine p_kin ?_ | refine p_kst ?_ | refine p_ord ?_ | refine p_izip2 ?_ | refine p_izip3 ?_ | (refine p_zip2 (by first | exact seqL | exact seqT | assumption) (by first | exact seqL | exact seqT | assumption) ?_) | (refine p_zip3 (by first | exact seqL | exact seqT | assumption) (by first | exact seqL | exact seqT | assumption) (by first | exact seqL | exact seqT | assumption) ?_) | (refine p_lenS (by omega) ?_)))
local macro_rules | `(tactic| walk_at "pv") => `(tactic| repeat (first | walk_at "p1" | walk_at "pu"))
local macro_rules | `(tactic| walk_at "pw") => `(tactic| repeat (first | walk_at "p1" | walk_at "pu" | walk_at "pd"))
local macro_rules | `(tactic| walk_at "pb") => `(tactic| (with_reducible first | refine p_ltBi ?_ | refine p_ltBs ?_ | refine p_ltBb ?_ | refine p_leBi ?_ | refine p_leBs ?_ | refine p_leBb ?_ | refine p_isM ?_ | refine p_kix ?_ | refine p_lstRg ?_))
local macro_rules | `(tactic| walk_at "pk") => `(tactic| repeat (first | walk_at "p1" | walk_at "pu" | walk_at "pb" | walk_at "pd" | walk_at "pr"))

theorem p_rg2 {a b : PEx} {ρ : PEnv} {Q : Int → Int → Prop} (h : a ρ fun x => b ρ fun y => ∃ i j, x = .int i ∧ y = .int j ∧ Q i j) : pRg2 a b ρ Q := h
theorem rg_ok {lo hi : Int} (h : -100 ≤ lo ∧ lo ≤ hi ∧ hi ≤ 100) : RgOk lo (hi + 1) := ⟨by omega, by omega, by omega, by omega, by omega⟩
theorem FF.wos_len {f : FF} (h : f.LOk) : f.wos.length ≤ 300 := by
  cases f with
  | rg f lo hi lack =>
    show (rgW lo hi).length ≤ 300
    unfold rgW
    rw [List.length_map, List.length_range]
    have := h.1; have := h.2.2
    omega
  | vs f l lack => exact Nat.le_trans h (by decide)
theorem FF.ok {f : FF} (h : f.LOk) : f.Ok := by
  cases f with
  | rg _ _ _ _ => exact trivial
  | vs f l lack => exact Nat.le_trans h (by decide)
theorem kd_wos {f : FF} {l : Lf} {k : Nat} (fk : f.Kd k) (lk : l.Kd k) : ∀ w ∈ f.wos, l.Kd w.k := fun w hw => by
  cases f with
  | rg f lo hi lack =>
    obtain ⟨n, rfl, _⟩ := mem_rgW.mp hw
    obtain rfl : k = 0 := fk
    exact lk
  | vs f ch lack => rw [fk w hw]; exact lk

def outsTail : PSt :=
    (pSeq (pAsg (pLc (piSq (pVar 3)) (pgName 5) (pTru (pCal ps_law_worth_passes (pCons (pVar 1) (pCons (pVar 5) pNil)))) (pVar 5) [5]) (pgName 4))
    (pSeq (pAsg (pLc (piSq (pVar 3)) (pgName 5) (pNot (pTru (pCal ps_law_worth_passes (pCons (pVar 1) (pCons (pVar 5) pNil))))) (pVar 5) [5]) (pgName 6))
    (pSeq (pAsg (pOrV (pOp pGt (pCB pLen (pCons (pVar 6) pNil)) (pC (.int 0))) (pOrV (pOp pEq (pVar 2) (pC (.str "some"))) (pAndV (pOp pEq (pOp pIx (pVar 0) (pC (.int 0))) (pC (.str "range"))) (pOp pEq (pOp pIx (pVar 1) (pC (.int 0))) (pC (.str "in")))))) (pgName 7))
    (pRet (pTup (pCons (pOp pGt (pCB pLen (pCons (pVar 4) pNil)) (pC (.int 0))) (pCons (pVar 7) pNil)))))))
theorem FF.p_row0 {f : FF} {Q : Da → Prop} (h : Q (.str (if f.isRg then "range" else "values"))) : pIx f.row (.int 0) Q := by cases f <;> exact ⟨_, by with_unfolding_all rfl, h⟩
theorem Lf.p_row0 {l : Lf} {Q : Da → Prop} (nh : l.isHas = false) (h : Q (.str (if l.isOne then "in" else "compare"))) : pIx l.row (.int 0) Q := by
  cases l with
  | has _ => cases nh
  | _ => exact ⟨_, by with_unfolding_all rfl, h⟩
theorem gt0 {n : Nat} : decide ((0 : Int) < (n : Int)) = decide (0 < n) := decide_eq_decide.mpr (by omega)
theorem outs_tail {f : FF} {l : Lf} {k : Nat} {Q : Da → Prop} (lo : f.LOk) (ok : l.Ok) (nh : l.isHas = false) (fk : f.Kd k) (lk : l.Kd k) (q : Q (.tup [.bl (f.pres l).1, .bl ((f.pres l).2 || decide (f.lack = "some"))])) :
    outsTail { nx := fun _ => Q .non, rt := Q } [some (.d f.row), some (.d l.row), some (.d (.str f.lack)), some (.d (.lst (f.wos.map Wo.d))), none, none, none, none] := by
  have kw := kd_wos fk lk
  obtain ⟨e1, e2⟩ := pres_law lo ok nh fk lk
  unfold outsTail
  walk_at "pk"
  refine p_filt (g := Wo.d) (satL l) (Nat.le_trans (FF.wos_len lo) (by decide)) (fun i a k1 k2 ha h1 h2 => ?_) ?_
  · walk_at "pk"
    refine ⟨l, a, rfl, ok, nh, kw a (List.mem_of_getElem? ha), ?_⟩
    walk_at "pk"
    refine z_ite (fun e => ?_) (fun e => h2 e)
    walk_at "pk"
    exact h1 e
  walk_at "pk"
  refine p_filt (g := Wo.d) (fun w => !satL l w) (Nat.le_trans (FF.wos_len lo) (by decide)) (fun i a k1 k2 ha h1 h2 => ?_) ?_
  · walk_at "pk"
    refine ⟨l, a, rfl, ok, nh, kw a (List.mem_of_getElem? ha), ?_⟩
    walk_at "pk"
    refine z_ite (fun e => ?_) (fun e => h2 e)
    walk_at "pk"
    exact h1 e
  walk_at "pk"
  rw [List.length_map, gt0]
  have fin : ∀ b : Bool, b = ((f.pres l).2 || decide (f.lack = "some")) → Q (.tup [.bl (decide ((0 : Int) < (((f.wos.filter (satL l)).map Wo.d).length : Nat))), .bl b]) := by
    rintro _ rfl
    rw [List.length_map, gt0, ← e1]
    exact q
  cases c : decide (0 < (f.wos.filter fun w => !satL l w).length) with
  | true =>
    walk_at "pk"
    exact fin _ (by rw [e2, c, Bool.true_or, Bool.true_or])
  | false =>
    walk_at "pk"
    cases c2 : decide (f.lack = "some") with
    | true =>
      walk_at "pk"
      exact fin _ (by simp [c2])
    | false =>
      walk_at "pk"
      refine FF.p_row0 ?_
      walk_at "pk"
      rw [c, Bool.false_or] at e2
      cases c3 : f.isRg with
      | false =>
        rw [c3, Bool.false_and] at e2
        walk_at "pk"
        exact fin _ (by simp [e2, c2])
      | true =>
        walk_at "pk"
        refine Lf.p_row0 nh ?_
        rw [c3, Bool.true_and] at e2
        cases c4 : l.isOne with
        | false =>
          walk_at "pk"
          exact fin _ (by rw [e2, c2, c4]; decide +kernel)
        | true =>
          walk_at "pk"
          exact fin _ (by simp [e2, c2, c4])
/-! law_outcomes -/
def ps_law_outcomes : PSp := fun ds Q _ => ∃ (f : FF) (l : Lf), ds = [f.row, l.row] ∧ f.LOk ∧ l.Ok ∧ (l.f = f.f → ∃ k, f.Kd k ∧ l.Kd k) ∧ Q (o2D (f.outs l))
def sp_law_outcomes (K : PySem.W.Frag) (c : CEnv) : Sp := lift K c ps_law_outcomes
theorem b_law_outcomes {K : PySem.W.Frag} {c : CEnv} : SpSim K c (sp_law_outcomes K c) ps_law_outcomes := spSim_lift
abbrev N_law_outcomes : List Str := ["_law_fact", "_law_tree", "_law_lack", "_law_worths", "_law_passing", "_law_worth", "_law_failing", "_law_fails"]
-- _law_outcomes(_law_fact, _law_tree): slots 0:_law_fact 1:_law_tree 2:_law_lack 3:_law_worths 4:_law_passing 5:_law_worth 6:_law_failing 7:_law_fails
def T_law_outcomes (K : PySem.W.Frag) (c : CEnv) : TS :=
    (tSeq (tIfS (tTest (tOp (uNe K) (tOp (uIx K) (tVar 1) (tC (.int 1))) (tOp (uIx K) (tVar 0) (tC (.int 1))))) (tRet (tC .non)) tNext)
    (tSeq (tAsg (tOp (uIx K) (tVar 0) (tOp uSub (tCB (uLen K) (tCons (tVar 0) tNil)) (tC (.int 1)))) (gName 2))
    (tSeq (tIfS (tTest (tOp (uEq K) (tVar 2) (tC (.str "all")))) (tRet (tTup (tCons (tC (.bl false)) (tCons (tC (.bl true)) tNil)))) tNext)
    (tSeq (tIfS (tTest (tOp (uEq K) (tOp (uIx K) (tVar 1) (tC (.int 0))) (tC (.str "has")))) (tRet (tTup (tCons (tC (.bl true)) (tCons (tOp (uEq K) (tVar 2) (tC (.str "some"))) tNil)))) tNext)
    (tSeq (tAsg (tOp (uIx K) (tVar 0) (tC (.int 2))) (gName 3))
    (tCut (tIfS (tTest (tOp (uEq K) (tOp (uIx K) (tVar 0) (tC (.int 0))) (tC (.str "range")))) (tAsg (tLstRg (tRg2 (tOp (uIx K) (tVar 0) (tC (.int 2))) (tOp (uAdd K) (tOp (uIx K) (tVar 0) (tC (.int 3))) (tC (.int 1))))) (gName 3)) tNext)
    (tSeq (tAsg (tLc (iSq K (tVar 3)) (gName 5) (tTru K (tCal (sp_law_worth_passes K c) (tCons (tVar 1) (tCons (tVar 5) tNil)))) (tVar 5) [5]) (gName 4))
    (tSeq (tAsg (tLc (iSq K (tVar 3)) (gName 5) (tNot (tTru K (tCal (sp_law_worth_passes K c) (tCons (tVar 1) (tCons (tVar 5) tNil))))) (tVar 5) [5]) (gName 6))
    (tSeq (tAsg (tOrV (tOp uGt (tCB (uLen K) (tCons (tVar 6) tNil)) (tC (.int 0))) (tOrV (tOp (uEq K) (tVar 2) (tC (.str "some"))) (tAndV (tOp (uEq K) (tOp (uIx K) (tVar 0) (tC (.int 0))) (tC (.str "range"))) (tOp (uEq K) (tOp (uIx K) (tVar 1) (tC (.int 0))) (tC (.str "in")))))) (gName 7))
    (tRet (tTup (tCons (tOp uGt (tCB (uLen K) (tCons (tVar 4) tNil)) (tC (.int 0))) (tCons (tVar 7) tNil)))))))))))))
def P_law_outcomes : PSt :=
    (pSeq (pIfS (pTest (pOp pNe (pOp pIx (pVar 1) (pC (.int 1))) (pOp pIx (pVar 0) (pC (.int 1))))) (pRet (pC .non)) pNext)
    (pSeq (pAsg (pOp pIx (pVar 0) (pOp pSub (pCB pLen (pCons (pVar 0) pNil)) (pC (.int 1)))) (pgName 2))
    (pSeq (pIfS (pTest (pOp pEq (pVar 2) (pC (.str "all")))) (pRet (pTup (pCons (pC (.bl false)) (pCons (pC (.bl true)) pNil)))) pNext)
    (pSeq (pIfS (pTest (pOp pEq (pOp pIx (pVar 1) (pC (.int 0))) (pC (.str "has")))) (pRet (pTup (pCons (pC (.bl true)) (pCons (pOp pEq (pVar 2) (pC (.str "some"))) pNil)))) pNext)
    (pSeq (pAsg (pOp pIx (pVar 0) (pC (.int 2))) (pgName 3))
    (pCut (pIfS (pTest (pOp pEq (pOp pIx (pVar 0) (pC (.int 0))) (pC (.str "range")))) (pAsg (pLstRg (pRg2 (pOp pIx (pVar 0) (pC (.int 2))) (pOp pAdd (pOp pIx (pVar 0) (pC (.int 3))) (pC (.int 1))))) (pgName 3)) pNext)
    (pSeq (pAsg (pLc (piSq (pVar 3)) (pgName 5) (pTru (pCal ps_law_worth_passes (pCons (pVar 1) (pCons (pVar 5) pNil)))) (pVar 5) [5]) (pgName 4))
    (pSeq (pAsg (pLc (piSq (pVar 3)) (pgName 5) (pNot (pTru (pCal ps_law_worth_passes (pCons (pVar 1) (pCons (pVar 5) pNil))))) (pVar 5) [5]) (pgName 6))
    (pSeq (pAsg (pOrV (pOp pGt (pCB pLen (pCons (pVar 6) pNil)) (pC (.int 0))) (pOrV (pOp pEq (pVar 2) (pC (.str "some"))) (pAndV (pOp pEq (pOp pIx (pVar 0) (pC (.int 0))) (pC (.str "range"))) (pOp pEq (pOp pIx (pVar 1) (pC (.int 0))) (pC (.str "in")))))) (pgName 7))
    (pRet (pTup (pCons (pOp pGt (pCB pLen (pCons (pVar 4) pNil)) (pC (.int 0))) (pCons (pVar 7) pNil)))))))))))))
theorem S_law_outcomes {K : PySem.W.Frag} {c : CEnv} : SimS ⟨K, c, W0, fun _ _ => False⟩ (T_law_outcomes K c) (P_law_outcomes) := by
  unfold T_law_outcomes P_law_outcomes
  exact (sim_seq (sim_ifS (sim_test (sim_op sim_ne (sim_op sim_ix (sim_var 1) (sim_int _)) (sim_op sim_ix (sim_var 0) (sim_int _)))) (sim_ret sim_non) sim_next)
    (sim_seq (sim_asg (sim_op sim_ix (sim_var 0) (sim_op sim_sub (sim_cb sim_len (sim_cons (sim_var 0) sim_nil)) (sim_int _))) (sim_gName 2))
    (sim_seq (sim_ifS (sim_test (sim_op sim_eq (sim_var 2) (sim_str _))) (sim_ret (sim_tup (sim_cons (sim_bl _) (sim_cons (sim_bl _) sim_nil)))) sim_next)
    (sim_seq (sim_ifS (sim_test (sim_op sim_eq (sim_op sim_ix (sim_var 1) (sim_int _)) (sim_str _))) (sim_ret (sim_tup (sim_cons (sim_bl _) (sim_cons (sim_op sim_eq (sim_var 2) (sim_str _)) sim_nil)))) sim_next)
    (sim_seq (sim_asg (sim_op sim_ix (sim_var 0) (sim_int _)) (sim_gName 3))
    (sim_cut (sim_ifS (sim_test (sim_op sim_eq (sim_op sim_ix (sim_var 0) (sim_int _)) (sim_str _))) (sim_asg (sim_lstRg2 (sim_op sim_ix (sim_var 0) (sim_int _)) (sim_op sim_add (sim_op sim_ix (sim_var 0) (sim_int _)) (sim_int _))) (sim_gName 3)) sim_next)
    (sim_seq (sim_asg (sim_lc (sim_iSq (sim_var 3)) (sim_gName 5) (by decide) (sim_tru (sim_cal b_law_worth_passes (sim_cons (sim_var 1) (sim_cons (sim_var 5) sim_nil)))) (sim_var 5)) (sim_gName 4))
    (sim_seq (sim_asg (sim_lc (sim_iSq (sim_var 3)) (sim_gName 5) (by decide) (sim_not (sim_tru (sim_cal b_law_worth_passes (sim_cons (sim_var 1) (sim_cons (sim_var 5) sim_nil))))) (sim_var 5)) (sim_gName 6))
    (sim_seq (sim_asg (sim_orV (sim_op sim_gt (sim_cb sim_len (sim_cons (sim_var 6) sim_nil)) (sim_int _)) (sim_orV (sim_op sim_eq (sim_var 2) (sim_str _)) (sim_andV (sim_op sim_eq (sim_op sim_ix (sim_var 0) (sim_int _)) (sim_str _)) (sim_op sim_eq (sim_op sim_ix (sim_var 1) (sim_int _)) (sim_str _))))) (sim_gName 7))
    (sim_ret (sim_tup (sim_cons (sim_op sim_gt (sim_cb sim_len (sim_cons (sim_var 4) sim_nil)) (sim_int _)) (sim_cons (sim_var 7) sim_nil)))))))))))))

theorem q_law_outcomes : ∀ ds Q E, ps_law_outcomes ds Q E → ds.length = 2 ∧ P_law_outcomes { nx := fun _ => Q .non, rt := Q } (startP 8 ds) := by
  rintro _ Q E ⟨f, l, rfl, lo, ok, kd, q⟩
  refine ⟨rfl, ?_⟩
  have r1 : ∀ {Q : Da → Prop}, Q (.str f.f) → pIx f.row (.int 1) Q := fun h => by cases f <;> exact ⟨_, by with_unfolding_all rfl, h⟩
  have l1 : ∀ {Q : Da → Prop}, Q (.str l.f) → pIx l.row (.int 1) Q := fun h => by cases l <;> exact ⟨_, by with_unfolding_all rfl, h⟩
  have tl : ∀ {ρ : PEnv} {Q : Da → Prop}, Q (.str f.lack) → pLen [f.row] (fun x => pC (.int 1) ρ fun y => pSub x y fun y => pIx f.row y Q) := fun h => by
    cases f with
    | rg _ _ _ _ => dsimp only [FF.row]; walk_at "pk"; exact h
    | vs _ _ _ => dsimp only [FF.row]; walk_at "pk"; exact h
  show P_law_outcomes _ [some (.d f.row), some (.d l.row), none, none, none, none, none, none]
  unfold P_law_outcomes
  walk_at "pz"
  refine l1 ?_
  walk_at "pz"
  refine r1 ?_
  walk_at "pz"
  simp only [FF.outs] at q
  by_cases e : l.f = f.f
  · obtain ⟨k, fk, lk⟩ := kd e
    rw [if_pos e] at q
    rw [decide_eq_true e]
    walk_at "pk"
    refine tl ?_
    walk_at "pk"
    by_cases e2 : f.lack = "all"
    · rw [if_pos e2] at q
      rw [decide_eq_true e2]
      walk_at "pk"
      exact q
    rw [if_neg e2] at q
    rw [decide_eq_false e2]
    walk_at "pk"
    cases nh : l.isHas with
    | true =>
      rw [nh, if_pos rfl] at q
      cases l with
      | has g =>
        dsimp only [Lf.row]
        walk_at "pk"
        exact q
      | _ => cases nh
    | false =>
      rw [nh, if_neg (by decide)] at q
      refine Lf.p_row0 nh ?_
      have tail := fun D => @outs_tail f l k D lo ok nh fk lk
      unfold outsTail at tail
      have go : ∀ s : Str, (s = "in" ∨ s = "compare") → True := fun _ _ => trivial
      cases f with
      | rg f a b lack =>
        have R := tail Q q
        dsimp only [FF.row] at R ⊢
        cases c4 : l.isOne <;>
        · walk_at "pk"
          refine p_cut (fun ρ => ρ = [some (.d (FF.rg f a b lack).row), some (.d l.row), some (.d (.str lack)), some (.d (.lst ((rgW a b).map Wo.d))), none, none, none, none]) ?_ (fun ρ hρ => by subst hρ; exact R)
          walk_at "pk"
          refine p_rg2 ?_
          walk_at "pk"
          refine ⟨_, _, rfl, rfl, rg_ok lo, ?_⟩
          rw [rgW_d]
          rfl
      | vs f ch lack =>
        have R := tail Q q
        dsimp only [FF.row] at R ⊢
        cases c4 : l.isOne <;>
        · walk_at "pk"
          refine p_cut (fun ρ => ρ = [some (.d (FF.vs f ch lack).row), some (.d l.row), some (.d (.str lack)), some (.d (.lst (ch.map Wo.d))), none, none, none, none]) ?_ (fun ρ hρ => by subst hρ; exact R)
          walk_at "pk"
          rfl
  · rw [if_neg e] at q
    rw [decide_eq_false e]
    walk_at "pk"
    exact q
theorem w_law_outcomes {K : PySem.W.Frag} {c : CEnv} : Wd (T_law_outcomes K c) N_law_outcomes 2 (sp_law_outcomes K c) := wd_lift S_law_outcomes q_law_outcomes

local macro_rules | `(tactic| walk_at "pu") => `(tactic| (with_reducible first | refine p_istr ?_ | refine p_cstT ?_ | refine p_kout ?_ | refine p_kin ?_ | refine p_kst ?_ | refine p_ord ?_ | refine p_izip2 ?_ | refine p_izip3 ?_ | (refine p_zip2 (by first | exact seqL | exact seqT | assumption) (by first | exact seqL | exact seqT | assumption) ?_) | (refine p_zip3 (by first | exact seqL | exact seqT | assumption) (by first | exact seqL | exact seqT | assumption) (by first | exact seqL | exact seqT | assumption) ?_) | (refine p_lenS (by omega) ?_)))
local macro_rules | `(tactic| walk_at "pv") => `(tactic| repeat (first | walk_at "p1" | walk_at "pu"))
local macro_rules | `(tactic| walk_at "pw") => `(tactic| repeat (first | walk_at "p1" | walk_at "pu" | walk_at "pd"))
local macro_rules | `(tactic| walk_at "pb") => `(tactic| (with_reducible first | refine p_ltBi ?_ | refine p_ltBs ?_ | refine p_ltBb ?_ | refine p_leBi ?_ | refine p_leBs ?_ | refine p_leBb ?_ | refine p_isM ?_ | refine p_kix ?_ | refine p_lstRg ?_))
local macro_rules | `(tactic| walk_at "pk") => `(tactic| repeat (first | walk_at "p1" | walk_at "pu" | walk_at "pb" | walk_at "pd" | walk_at "pr"))

theorem atI_w {α : Type} {l : List α} {j : Nat} {x : α} (h : l[j]? = some x) : atI l (j : Int) = some x := by
  have lt := (List.getElem?_eq_some_iff.mp h).1
  unfold atI ixN
  rw [if_pos (by omega), if_pos (by omega)]
  exact h
theorem p_pickW {l : List Da} {k : Int} {Q : Da → Prop} (h0 : 0 ≤ k) (h1 : k < (l.length : Int)) (h : ∀ d ∈ l, Q d) : pIx (.lst l) (.int k) Q := by
  obtain ⟨j, rfl⟩ := Int.eq_ofNat_of_zero_le h0
  have lt : j < l.length := by omega
  exact ⟨l[j], atI_w (List.getElem?_eq_getElem lt), h _ (List.getElem_mem lt)⟩
theorem p_pickS {l : List Str} {k : Int} {Q : Da → Prop} (h0 : 0 ≤ k) (h1 : k < (l.length : Int)) (h : ∀ s ∈ l, Q (.str s)) : pIx (.lst (l.map Da.str)) (.int k) Q := p_pickW h0 (by rw [List.length_map]; exact h1) fun d hd => by
  obtain ⟨s, hs, rfl⟩ := List.mem_map.mp hd
  exact h s hs
theorem p_pickWo {l : List Wo} {k : Int} {Q : Da → Prop} (h0 : 0 ≤ k) (h1 : k < (l.length : Int)) (h : ∀ w ∈ l, Q w.d) : pIx (.lst (l.map Wo.d)) (.int k) Q := p_pickW h0 (by rw [List.length_map]; exact h1) fun d hd => by
  obtain ⟨s, hs, rfl⟩ := List.mem_map.mp hd
  exact h s hs
theorem p_bm {q : Da → List Da → (Da → Prop) → Prop} {a : PEx} {t : PAr} {ρ : PEnv} {Q : Da → Prop} (k : a ρ fun x => (∃ l, x = .lst l) ∧ t ρ fun ys => q x ys Q) : pBM q a t ρ Q := k
theorem idx_n {Q : Da → Prop} (h : Q (.int 0)) : pIndex (.lst [.str "n", .str "t", .str "f"]) [.str "n"] Q := ⟨0, .str "n", rfl, rfl, rfl, by with_unfolding_all rfl, fun m u hm => by omega, h⟩
theorem idx_t {Q : Da → Prop} (h : Q (.int 1)) : pIndex (.lst [.str "n", .str "t", .str "f"]) [.str "t"] Q := ⟨1, .str "t", rfl, rfl, rfl, by with_unfolding_all rfl, fun m u hm e => by
  obtain rfl : m = 0 := by omega
  cases e
  with_unfolding_all rfl, h⟩
theorem idx_f {Q : Da → Prop} (h : Q (.int 2)) : pIndex (.lst [.str "n", .str "t", .str "f"]) [.str "f"] Q := ⟨2, .str "f", rfl, rfl, rfl, by with_unfolding_all rfl, fun m u hm e => by
  obtain rfl | rfl : m = 0 ∨ m = 1 := by omega
  · cases e
    with_unfolding_all rfl
  · cases e
    with_unfolding_all rfl, h⟩
def kdN (f : Str) : Nat := if f = "n" then 0 else if f = "t" then 1 else 2
/-! law_field_fact -/
def ps_law_field_fact : PSp := fun ds Q _ => ds = [.st] ∧ ∀ f : FF, f.LOk → f.Kd (kdN f.f) → Q f.row
def sp_law_field_fact (K : PySem.W.Frag) (c : CEnv) : Sp := lift K c ps_law_field_fact
theorem b_law_field_fact {K : PySem.W.Frag} {c : CEnv} : SpSim K c (sp_law_field_fact K c) ps_law_field_fact := spSim_lift
abbrev N_law_field_fact : List Str := ["_law_state", "_law_lack", "_law_low"]
-- _law_field_fact(_law_state): slots 0:_law_state 1:_law_lack 2:_law_low
def T_law_field_fact (K : PySem.W.Frag) : TS :=
    (tSeq (tAsg (tOp (uIx K) (tLst (tCons (tC (.str "nobody")) (tCons (tC (.str "some")) (tCons (tC (.str "all")) tNil)))) (tCal (sp_law_next K) (tCons (tVar 0) (tCons (tC (.int 3)) tNil)))) (gName 1))
    (tSeq (tIfS (tTest (tOp (uEq K) (tCal (sp_law_next K) (tCons (tVar 0) (tCons (tC (.int 2)) tNil))) (tC (.int 0)))) (tSeq (tAsg (tOp uSub (tCal (sp_law_next K) (tCons (tVar 0) (tCons (tC (.int 9)) tNil))) (tC (.int 4))) (gName 2))
    (tRet (tTup (tCons (tC (.str "range")) (tCons (tC (.str "n")) (tCons (tVar 2) (tCons (tOp (uAdd K) (tVar 2) (tCal (sp_law_next K) (tCons (tVar 0) (tCons (tC (.int 5)) tNil)))) (tCons (tVar 1) tNil)))))))) tNext)
    (tSeq (tIfS (tTest (tOp (uEq K) (tCal (sp_law_next K) (tCons (tVar 0) (tCons (tC (.int 2)) tNil))) (tC (.int 0)))) (tRet (tTup (tCons (tC (.str "values")) (tCons (tC (.str "t")) (tCons (tSl (uSl K) (tLst (tCons (tC (.str "red")) (tCons (tC (.str "blue")) (tCons (tC (.str "ash")) (tCons (tC (.str "")) tNil))))) tNoPart (tPart (tCal (sp_law_next K) (tCons (tVar 0) (tCons (tC (.int 5)) tNil))))) (tCons (tVar 1) tNil)))))) tNext)
    (tRet (tTup (tCons (tC (.str "values")) (tCons (tC (.str "f")) (tCons (tSl (uSl K) (tLst (tCons (tC (.bl true)) (tCons (tC (.bl false)) tNil))) tNoPart (tPart (tOp (uAdd K) (tC (.int 1)) (tCal (sp_law_next K) (tCons (tVar 0) (tCons (tC (.int 2)) tNil)))))) (tCons (tVar 1) tNil)))))))))
def P_law_field_fact : PSt :=
    (pSeq (pAsg (pOp pIx (pLst (pCons (pC (.str "nobody")) (pCons (pC (.str "some")) (pCons (pC (.str "all")) pNil)))) (pCal ps_law_next (pCons (pVar 0) (pCons (pC (.int 3)) pNil)))) (pgName 1))
    (pSeq (pIfS (pTest (pOp pEq (pCal ps_law_next (pCons (pVar 0) (pCons (pC (.int 2)) pNil))) (pC (.int 0)))) (pSeq (pAsg (pOp pSub (pCal ps_law_next (pCons (pVar 0) (pCons (pC (.int 9)) pNil))) (pC (.int 4))) (pgName 2))
    (pRet (pTup (pCons (pC (.str "range")) (pCons (pC (.str "n")) (pCons (pVar 2) (pCons (pOp pAdd (pVar 2) (pCal ps_law_next (pCons (pVar 0) (pCons (pC (.int 5)) pNil)))) (pCons (pVar 1) pNil)))))))) pNext)
    (pSeq (pIfS (pTest (pOp pEq (pCal ps_law_next (pCons (pVar 0) (pCons (pC (.int 2)) pNil))) (pC (.int 0)))) (pRet (pTup (pCons (pC (.str "values")) (pCons (pC (.str "t")) (pCons (pSl (pLst (pCons (pC (.str "red")) (pCons (pC (.str "blue")) (pCons (pC (.str "ash")) (pCons (pC (.str "")) pNil))))) pNoPart (pPart (pCal ps_law_next (pCons (pVar 0) (pCons (pC (.int 5)) pNil))))) (pCons (pVar 1) pNil)))))) pNext)
    (pRet (pTup (pCons (pC (.str "values")) (pCons (pC (.str "f")) (pCons (pSl (pLst (pCons (pC (.bl true)) (pCons (pC (.bl false)) pNil))) pNoPart (pPart (pOp pAdd (pC (.int 1)) (pCal ps_law_next (pCons (pVar 0) (pCons (pC (.int 2)) pNil)))))) (pCons (pVar 1) pNil)))))))))
theorem S_law_field_fact {K : PySem.W.Frag} {c : CEnv} : SimS ⟨K, c, W0, fun _ _ => False⟩ (T_law_field_fact K) (P_law_field_fact) := by
  unfold T_law_field_fact P_law_field_fact
  exact (sim_seq (sim_asg (sim_op sim_ix (sim_lst (sim_cons (sim_str _) (sim_cons (sim_str _) (sim_cons (sim_str _) sim_nil)))) (sim_cal b_law_next (sim_cons (sim_var 0) (sim_cons (sim_int _) sim_nil)))) (sim_gName 1))
    (sim_seq (sim_ifS (sim_test (sim_op sim_eq (sim_cal b_law_next (sim_cons (sim_var 0) (sim_cons (sim_int _) sim_nil))) (sim_int _))) (sim_seq (sim_asg (sim_op sim_sub (sim_cal b_law_next (sim_cons (sim_var 0) (sim_cons (sim_int _) sim_nil))) (sim_int _)) (sim_gName 2))
    (sim_ret (sim_tup (sim_cons (sim_str _) (sim_cons (sim_str _) (sim_cons (sim_var 2) (sim_cons (sim_op sim_add (sim_var 2) (sim_cal b_law_next (sim_cons (sim_var 0) (sim_cons (sim_int _) sim_nil)))) (sim_cons (sim_var 1) sim_nil)))))))) sim_next)
    (sim_seq (sim_ifS (sim_test (sim_op sim_eq (sim_cal b_law_next (sim_cons (sim_var 0) (sim_cons (sim_int _) sim_nil))) (sim_int _))) (sim_ret (sim_tup (sim_cons (sim_str _) (sim_cons (sim_str _) (sim_cons (sim_sl (sim_lst (sim_cons (sim_str _) (sim_cons (sim_str _) (sim_cons (sim_str _) (sim_cons (sim_str _) sim_nil))))) sim_noPart (sim_part (sim_cal b_law_next (sim_cons (sim_var 0) (sim_cons (sim_int _) sim_nil))))) (sim_cons (sim_var 1) sim_nil)))))) sim_next)
    (sim_ret (sim_tup (sim_cons (sim_str _) (sim_cons (sim_str _) (sim_cons (sim_sl (sim_lst (sim_cons (sim_bl _) (sim_cons (sim_bl _) sim_nil))) sim_noPart (sim_part (sim_op sim_add (sim_int _) (sim_cal b_law_next (sim_cons (sim_var 0) (sim_cons (sim_int _) sim_nil)))))) (sim_cons (sim_var 1) sim_nil)))))))))

theorem q_law_field_fact : ∀ ds Q E, ps_law_field_fact ds Q E → ds.length = 1 ∧ P_law_field_fact { nx := fun _ => Q .non, rt := Q } (startP 3 ds) := by
  rintro _ Q E ⟨rfl, q⟩
  refine ⟨rfl, ?_⟩
  unfold P_law_field_fact startP
  walk_at "pk"
  refine next_c (by decide) (by decide) fun a a0 a1 => ?_
  refine p_pickS (l := ["nobody", "some", "all"]) a0 a1 fun lack _ => ?_
  walk_at "pk"
  refine next_c (by decide) (by decide) fun b b0 b1 => ?_
  walk_at "pk"
  refine z_ite (fun _ => ?_) (fun _ => ?_)
  · walk_at "pk"
    refine next_c (by decide) (by decide) fun c c0 c1 => ?_
    walk_at "pk"
    refine next_c (by decide) (by decide) fun d d0 d1 => ?_
    walk_at "pk"
    exact q (.rg "n" (c - 4) (c - 4 + d) lack) ⟨by omega, by omega, by omega⟩ (by show 0 = kdN "n"; decide +kernel)
  walk_at "pk"
  refine next_c (by decide) (by decide) fun c c0 c1 => ?_
  walk_at "pk"
  refine z_ite (fun _ => ?_) (fun _ => ?_)
  · walk_at "pk"
    refine next_c (by decide) (by decide) fun d d0 d1 => ?_
    walk_at "pk"
    obtain ⟨ws, e, hl, hk⟩ : ∃ ws : List Wo, cutD [.str "red", .str "blue", .str "ash", .str ""] none (some d) = ws.map Wo.d ∧ ws.length ≤ 100 ∧ ∀ w ∈ ws, w.k = 1 := by
      have hd : d = 0 ∨ d = 1 ∨ d = 2 ∨ d = 3 ∨ d = 4 := by omega
      rcases hd with rfl | rfl | rfl | rfl | rfl
      · exact ⟨[], by with_unfolding_all rfl, by decide, by simp⟩
      · exact ⟨[.s "red"], by with_unfolding_all rfl, by simp, by simp [Wo.k]⟩
      · exact ⟨[.s "red", .s "blue"], by with_unfolding_all rfl, by simp, by simp [Wo.k]⟩
      · exact ⟨[.s "red", .s "blue", .s "ash"], by with_unfolding_all rfl, by simp, by simp [Wo.k]⟩
      · exact ⟨[.s "red", .s "blue", .s "ash", .s ""], by with_unfolding_all rfl, by simp, by simp [Wo.k]⟩
    rw [e]
    walk_at "pk"
    refine q (.vs "t" ws lack) hl ?_
    have e : kdN "t" = 1 := by decide +kernel
    show ∀ w ∈ ws, w.k = kdN "t"
    rw [e]; exact hk
  · walk_at "pk"
    refine next_c (by decide) (by decide) fun d d0 d1 => ?_
    walk_at "pk"
    obtain ⟨ws, e, hl, hk⟩ : ∃ ws : List Wo, cutD [.bl true, .bl false] none (some (1 + d)) = ws.map Wo.d ∧ ws.length ≤ 100 ∧ ∀ w ∈ ws, w.k = 2 := by
      have hd : d = 0 ∨ d = 1 := by omega
      rcases hd with rfl | rfl
      · exact ⟨[.b true], by with_unfolding_all rfl, by simp, by simp [Wo.k]⟩
      · exact ⟨[.b true, .b false], by with_unfolding_all rfl, by simp, by simp [Wo.k]⟩
    rw [e]
    walk_at "pk"
    refine q (.vs "f" ws lack) hl ?_
    have e : kdN "f" = 2 := by decide +kernel
    show ∀ w ∈ ws, w.k = kdN "f"
    rw [e]; exact hk
theorem w_law_field_fact {K : PySem.W.Frag} {c : CEnv} : Wd (T_law_field_fact K) N_law_field_fact 1 (sp_law_field_fact K c) := wd_lift S_law_field_fact q_law_field_fact

def leafTail : PSt :=
    (pSeq (pIfS (pTest (pOp pEq (pVar 1) (pC (.int 0)))) (pRet (pTup (pCons (pC (.str "has")) (pCons (pVar 2) pNil)))) pNext)
    (pSeq (pIfS (pTest (pOp pEq (pVar 1) (pC (.int 1)))) (pRet (pTup (pCons (pC (.str "in")) (pCons (pVar 2) (pCons (pLc (piRng1 (pCons (pOp pAdd (pC (.int 1)) (pCal ps_law_next (pCons (pVar 0) (pCons (pC (.int 3)) pNil)))) pNil)) (pgName 4) pYes (pOp pIx (pVar 3) (pCal ps_law_next (pCons (pVar 0) (pCons (pCB pLen (pCons (pVar 3) pNil)) pNil)))) [4]) pNil))))) pNext)
    (pRet (pTup (pCons (pC (.str "compare")) (pCons (pVar 2) (pCons (pOp pIx (pLst (pCons (pC (.str "=")) (pCons (pC (.str "!=")) (pCons (pC (.str "<")) (pCons (pC (.str "<=")) (pCons (pC (.str ">")) (pCons (pC (.str ">=")) pNil))))))) (pCal ps_law_next (pCons (pVar 0) (pCons (pC (.int 6)) pNil)))) (pCons (pOp pIx (pVar 3) (pCal ps_law_next (pCons (pVar 0) (pCons (pCB pLen (pCons (pVar 3) pNil)) pNil)))) pNil))))))))
theorem leaf_tail {f : Str} {ws : List Wo} {k : Int} {Q : Da → Prop} (q : ∀ l : Lf, l.Ok → l.Kd (kdN l.f) → l.f = f → Q l.row) (h0 : 0 < ws.length) (h1 : ws.length ≤ 100) (hk : ∀ w ∈ ws, w.k = kdN f) :
    leafTail { nx := fun _ => Q .non, rt := Q } [some (.d .st), some (.d (.int k)), some (.d (.str f)), some (.d (.lst (ws.map Wo.d))), none] := by
  unfold leafTail
  walk_at "pk"
  refine z_ite (fun _ => ?_) (fun _ => ?_)
  · walk_at "pk"
    exact q (.has f) trivial trivial rfl
  walk_at "pk"
  refine z_ite (fun _ => ?_) (fun _ => ?_)
  · walk_at "pk"
    refine next_c (by decide) (by decide) fun d d0 d1 => ?_
    walk_at "pk"
    refine p_rng1 (by omega) ?_
    refine p_compS Wo.d (fun w => w.k = kdN f) (by rw [rngD_len]; omega) (fun i x k hx hk' => ?_) fun as hl hp => ?_
    · obtain ⟨_, rfl⟩ := rngD_get hx
      walk_at "pk"
      rw [List.length_map]
      refine next_c (by omega) (by omega) fun r r0 r1 => ?_
      exact p_pickWo r0 r1 fun w hw => hk' w (hk w hw)
    · walk_at "pk"
      rw [rngD_len] at hl
      exact q (.one f as) (by show as.length ≤ 1000; omega) hp rfl
  walk_at "pk"
  refine next_c (by decide) (by decide) fun d d0 d1 => ?_
  refine p_pickS (l := ["=", "!=", "<", "<=", ">", ">="]) d0 d1 fun s hs => ?_
  walk_at "pk"
  rw [List.length_map]
  refine next_c (by omega) (by omega) fun r r0 r1 => ?_
  refine p_pickWo r0 r1 fun w hw => ?_
  walk_at "pk"
  exact q (.cmp f s w) hs (hk w hw) rfl
/-! law_leaf -/
def ps_law_leaf : PSp := fun ds Q _ => ds = [.st] ∧ ∀ l : Lf, l.Ok → l.Kd (kdN l.f) → Q l.row
def sp_law_leaf (K : PySem.W.Frag) (c : CEnv) : Sp := lift K c ps_law_leaf
theorem b_law_leaf {K : PySem.W.Frag} {c : CEnv} : SpSim K c (sp_law_leaf K c) ps_law_leaf := spSim_lift
abbrev N_law_leaf : List Str := ["_law_state", "_law_kind", "_law_name", "_law_worths", "_law_k"]
-- _law_leaf(_law_state): slots 0:_law_state 1:_law_kind 2:_law_name 3:_law_worths 4:_law_k
def T_law_leaf (K : PySem.W.Frag) : TS :=
    (tSeq (tAsg (tCal (sp_law_next K) (tCons (tVar 0) (tCons (tC (.int 4)) tNil))) (gName 1))
    (tSeq (tAsg (tOp (uIx K) (tLst (tCons (tC (.str "n")) (tCons (tC (.str "n")) (tCons (tC (.str "t")) (tCons (tC (.str "f")) tNil))))) (tCal (sp_law_next K) (tCons (tVar 0) (tCons (tC (.int 4)) tNil)))) (gName 2))
    (tSeq (tAsg (tOp (uIx K) (tLst (tCons (tLst (tCons (tUn uNeg (tC (.int 5))) (tCons (tUn uNeg (tC (.int 1))) (tCons (tC (.int 0)) (tCons (tC (.int 2)) (tCons (tC (.int 5)) (tCons (tC (.int 9)) tNil))))))) (tCons (tLst (tCons (tC (.str "")) (tCons (tC (.str "red")) (tCons (tC (.str "ash")) (tCons (tC (.str "zz")) tNil))))) (tCons (tLst (tCons (tC (.bl true)) (tCons (tC (.bl false)) tNil))) tNil)))) (tBM K "list" (rIndex K) (tLst (tCons (tC (.str "n")) (tCons (tC (.str "t")) (tCons (tC (.str "f")) tNil)))) (tCons (tVar 2) tNil))) (gName 3))
    (tSeq (tIfS (tTest (tOp (uEq K) (tVar 1) (tC (.int 0)))) (tRet (tTup (tCons (tC (.str "has")) (tCons (tVar 2) tNil)))) tNext)
    (tSeq (tIfS (tTest (tOp (uEq K) (tVar 1) (tC (.int 1)))) (tRet (tTup (tCons (tC (.str "in")) (tCons (tVar 2) (tCons (tLc (iRng1 (tCons (tOp (uAdd K) (tC (.int 1)) (tCal (sp_law_next K) (tCons (tVar 0) (tCons (tC (.int 3)) tNil)))) tNil)) (gName 4) tYes (tOp (uIx K) (tVar 3) (tCal (sp_law_next K) (tCons (tVar 0) (tCons (tCB (uLen K) (tCons (tVar 3) tNil)) tNil)))) [4]) tNil))))) tNext)
    (tRet (tTup (tCons (tC (.str "compare")) (tCons (tVar 2) (tCons (tOp (uIx K) (tLst (tCons (tC (.str "=")) (tCons (tC (.str "!=")) (tCons (tC (.str "<")) (tCons (tC (.str "<=")) (tCons (tC (.str ">")) (tCons (tC (.str ">=")) tNil))))))) (tCal (sp_law_next K) (tCons (tVar 0) (tCons (tC (.int 6)) tNil)))) (tCons (tOp (uIx K) (tVar 3) (tCal (sp_law_next K) (tCons (tVar 0) (tCons (tCB (uLen K) (tCons (tVar 3) tNil)) tNil)))) tNil)))))))))))
def P_law_leaf : PSt :=
    (pSeq (pAsg (pCal ps_law_next (pCons (pVar 0) (pCons (pC (.int 4)) pNil))) (pgName 1))
    (pSeq (pAsg (pOp pIx (pLst (pCons (pC (.str "n")) (pCons (pC (.str "n")) (pCons (pC (.str "t")) (pCons (pC (.str "f")) pNil))))) (pCal ps_law_next (pCons (pVar 0) (pCons (pC (.int 4)) pNil)))) (pgName 2))
    (pSeq (pAsg (pOp pIx (pLst (pCons (pLst (pCons (pUn pNeg (pC (.int 5))) (pCons (pUn pNeg (pC (.int 1))) (pCons (pC (.int 0)) (pCons (pC (.int 2)) (pCons (pC (.int 5)) (pCons (pC (.int 9)) pNil))))))) (pCons (pLst (pCons (pC (.str "")) (pCons (pC (.str "red")) (pCons (pC (.str "ash")) (pCons (pC (.str "zz")) pNil))))) (pCons (pLst (pCons (pC (.bl true)) (pCons (pC (.bl false)) pNil))) pNil)))) (pBM pIndex (pLst (pCons (pC (.str "n")) (pCons (pC (.str "t")) (pCons (pC (.str "f")) pNil)))) (pCons (pVar 2) pNil))) (pgName 3))
    (pSeq (pIfS (pTest (pOp pEq (pVar 1) (pC (.int 0)))) (pRet (pTup (pCons (pC (.str "has")) (pCons (pVar 2) pNil)))) pNext)
    (pSeq (pIfS (pTest (pOp pEq (pVar 1) (pC (.int 1)))) (pRet (pTup (pCons (pC (.str "in")) (pCons (pVar 2) (pCons (pLc (piRng1 (pCons (pOp pAdd (pC (.int 1)) (pCal ps_law_next (pCons (pVar 0) (pCons (pC (.int 3)) pNil)))) pNil)) (pgName 4) pYes (pOp pIx (pVar 3) (pCal ps_law_next (pCons (pVar 0) (pCons (pCB pLen (pCons (pVar 3) pNil)) pNil)))) [4]) pNil))))) pNext)
    (pRet (pTup (pCons (pC (.str "compare")) (pCons (pVar 2) (pCons (pOp pIx (pLst (pCons (pC (.str "=")) (pCons (pC (.str "!=")) (pCons (pC (.str "<")) (pCons (pC (.str "<=")) (pCons (pC (.str ">")) (pCons (pC (.str ">=")) pNil))))))) (pCal ps_law_next (pCons (pVar 0) (pCons (pC (.int 6)) pNil)))) (pCons (pOp pIx (pVar 3) (pCal ps_law_next (pCons (pVar 0) (pCons (pCB pLen (pCons (pVar 3) pNil)) pNil)))) pNil)))))))))))
theorem S_law_leaf {K : PySem.W.Frag} {c : CEnv} : SimS ⟨K, c, W0, fun _ _ => False⟩ (T_law_leaf K) (P_law_leaf) := by
  unfold T_law_leaf P_law_leaf
  exact (sim_seq (sim_asg (sim_cal b_law_next (sim_cons (sim_var 0) (sim_cons (sim_int _) sim_nil))) (sim_gName 1))
    (sim_seq (sim_asg (sim_op sim_ix (sim_lst (sim_cons (sim_str _) (sim_cons (sim_str _) (sim_cons (sim_str _) (sim_cons (sim_str _) sim_nil))))) (sim_cal b_law_next (sim_cons (sim_var 0) (sim_cons (sim_int _) sim_nil)))) (sim_gName 2))
    (sim_seq (sim_asg (sim_op sim_ix (sim_lst (sim_cons (sim_lst (sim_cons (sim_un sim_neg (sim_int _)) (sim_cons (sim_un sim_neg (sim_int _)) (sim_cons (sim_int _) (sim_cons (sim_int _) (sim_cons (sim_int _) (sim_cons (sim_int _) sim_nil))))))) (sim_cons (sim_lst (sim_cons (sim_str _) (sim_cons (sim_str _) (sim_cons (sim_str _) (sim_cons (sim_str _) sim_nil))))) (sim_cons (sim_lst (sim_cons (sim_bl _) (sim_cons (sim_bl _) sim_nil))) sim_nil)))) (sim_bm simM_index (sim_lst (sim_cons (sim_str _) (sim_cons (sim_str _) (sim_cons (sim_str _) sim_nil)))) (sim_cons (sim_var 2) sim_nil))) (sim_gName 3))
    (sim_seq (sim_ifS (sim_test (sim_op sim_eq (sim_var 1) (sim_int _))) (sim_ret (sim_tup (sim_cons (sim_str _) (sim_cons (sim_var 2) sim_nil)))) sim_next)
    (sim_seq (sim_ifS (sim_test (sim_op sim_eq (sim_var 1) (sim_int _))) (sim_ret (sim_tup (sim_cons (sim_str _) (sim_cons (sim_var 2) (sim_cons (sim_lc (sim_iRng1 (sim_cons (sim_op sim_add (sim_int _) (sim_cal b_law_next (sim_cons (sim_var 0) (sim_cons (sim_int _) sim_nil)))) sim_nil)) (sim_gName 4) (by decide) sim_yes (sim_op sim_ix (sim_var 3) (sim_cal b_law_next (sim_cons (sim_var 0) (sim_cons (sim_cb sim_len (sim_cons (sim_var 3) sim_nil)) sim_nil))))) sim_nil))))) sim_next)
    (sim_ret (sim_tup (sim_cons (sim_str _) (sim_cons (sim_var 2) (sim_cons (sim_op sim_ix (sim_lst (sim_cons (sim_str _) (sim_cons (sim_str _) (sim_cons (sim_str _) (sim_cons (sim_str _) (sim_cons (sim_str _) (sim_cons (sim_str _) sim_nil))))))) (sim_cal b_law_next (sim_cons (sim_var 0) (sim_cons (sim_int _) sim_nil)))) (sim_cons (sim_op sim_ix (sim_var 3) (sim_cal b_law_next (sim_cons (sim_var 0) (sim_cons (sim_cb sim_len (sim_cons (sim_var 3) sim_nil)) sim_nil)))) sim_nil)))))))))))

theorem q_law_leaf : ∀ ds Q E, ps_law_leaf ds Q E → ds.length = 1 ∧ P_law_leaf { nx := fun _ => Q .non, rt := Q } (startP 5 ds) := by
  rintro _ Q E ⟨rfl, q⟩
  refine ⟨rfl, ?_⟩
  show P_law_leaf _ [some (.d .st), none, none, none, none]
  unfold P_law_leaf
  walk_at "pk"
  refine next_c (by decide) (by decide) fun a a0 a1 => ?_
  walk_at "pk"
  refine next_c (by decide) (by decide) fun b b0 b1 => ?_
  refine p_pickS (l := ["n", "n", "t", "f"]) b0 b1 fun f hf => ?_
  have q' : ∀ f' : Str, ∀ l : Lf, l.Ok → l.Kd (kdN l.f) → l.f = f' → Q l.row := fun _ l h1 h2 _ => q l h1 h2
  simp only [List.mem_cons, List.not_mem_nil, or_false] at hf
  have en : kdN "n" = 0 := by decide +kernel
  have et : kdN "t" = 1 := by decide +kernel
  have ef : kdN "f" = 2 := by decide +kernel
  have gn := fun k => leaf_tail (k := k) (q' "n") (ws := [.i (-5), .i (-1), .i 0, .i 2, .i 5, .i 9]) (by decide) (by decide) (by rw [en]; simp [Wo.k])
  have gt := fun k => leaf_tail (k := k) (q' "t") (ws := [.s "", .s "red", .s "ash", .s "zz"]) (by decide) (by decide) (by rw [et]; simp [Wo.k])
  have gf := fun k => leaf_tail (k := k) (q' "f") (ws := [.b true, .b false]) (by decide) (by decide) (by rw [ef]; simp [Wo.k])
  rcases hf with rfl | rfl | rfl | rfl
  · walk_at "pk"
    refine p_bm ?_
    walk_at "pk"
    refine ⟨⟨_, rfl⟩, ?_⟩
    walk_at "pk"
    refine idx_n ?_
    refine p_ixL (by with_unfolding_all rfl) ?_
    exact gn a
  · walk_at "pk"
    refine p_bm ?_
    walk_at "pk"
    refine ⟨⟨_, rfl⟩, ?_⟩
    walk_at "pk"
    refine idx_n ?_
    refine p_ixL (by with_unfolding_all rfl) ?_
    exact gn a
  · walk_at "pk"
    refine p_bm ?_
    walk_at "pk"
    refine ⟨⟨_, rfl⟩, ?_⟩
    walk_at "pk"
    refine idx_t ?_
    refine p_ixL (by with_unfolding_all rfl) ?_
    exact gt a
  · walk_at "pk"
    refine p_bm ?_
    walk_at "pk"
    refine ⟨⟨_, rfl⟩, ?_⟩
    walk_at "pk"
    refine idx_f ?_
    refine p_ixL (by with_unfolding_all rfl) ?_
    exact gf a
theorem w_law_leaf {K : PySem.W.Frag} {c : CEnv} : Wd (T_law_leaf K) N_law_leaf 1 (sp_law_leaf K c) := wd_lift S_law_leaf q_law_leaf

local macro_rules | `(tactic| walk_at "pu") => `(tactic| (with_reducible first | refine p_istr ?_ | refine p_cstT ?_ | refine p_kout ?_ | refine p_kin ?_ | refine p_kst ?_ | refine p_ord ?_ | refine p_izip2 ?_ | refine p_izip3 ?_ | (refine p_zip2 (by first | exact seqL | exact seqT | assumption) (by first | exact seqL | exact seqT | assumption) ?_) | (refine p_zip3 (by first | exact seqL | exact seqT | assumption) (by first | exact seqL | exact seqT | assumption) (by first | exact seqL | exact seqT | assumption) ?_) | (refine p_lenS (by omega) ?_)))
local macro_rules | `(tactic| walk_at "pv") => `(tactic| repeat (first | walk_at "p1" | walk_at "pu"))
local macro_rules | `(tactic| walk_at "pw") => `(tactic| repeat (first | walk_at "p1" | walk_at "pu" | walk_at "pd"))
local macro_rules | `(tactic| walk_at "pb") => `(tactic| (with_reducible first | refine p_ltBi ?_ | refine p_ltBs ?_ | refine p_ltBb ?_ | refine p_leBi ?_ | refine p_leBs ?_ | refine p_leBb ?_ | refine p_isM ?_ | refine p_kix ?_ | refine p_lstRg ?_))
local macro_rules | `(tactic| walk_at "pk") => `(tactic| repeat (first | walk_at "p1" | walk_at "pu" | walk_at "pb" | walk_at "pd" | walk_at "pr"))
/-! law_built -/
def ps_law_built : PSp := fun ds Q _ => ∃ (l : Lf), ds = [l.row] ∧ Q l.d
def sp_law_built (K : PySem.W.Frag) (c : CEnv) : Sp := lift K c ps_law_built
theorem b_law_built {K : PySem.W.Frag} {c : CEnv} : SpSim K c (sp_law_built K c) ps_law_built := spSim_lift
abbrev N_law_built : List Str := ["_law_tree"]
-- _law_built(_law_tree): slots 0:_law_tree
def T_law_built (K : PySem.W.Frag) (c : CEnv) : TS :=
    (tSeq (tIfS (tTest (tOp (uEq K) (tOp (uIx K) (tVar 0) (tC (.int 0))) (tC (.str "every")))) tNever tNext)
    (tSeq (tIfS (tTest (tOp (uEq K) (tOp (uIx K) (tVar 0) (tC (.int 0))) (tC (.str "has")))) (tRet (tMk K c "Has" ["field"] (sp_Has_init K c) (tCons (tOp (uIx K) (tVar 0) (tC (.int 1))) tNil))) tNext)
    (tSeq (tIfS (tTest (tOp (uEq K) (tOp (uIx K) (tVar 0) (tC (.int 0))) (tC (.str "compare")))) (tRet (tMk K c "Compare" ["field", "sign", "value"] (sp_Compare_init K c) (tCons (tOp (uIx K) (tVar 0) (tC (.int 1))) (tCons (tOp (uIx K) (tVar 0) (tC (.int 2))) (tCons (tOp (uIx K) (tVar 0) (tC (.int 3))) tNil))))) tNext)
    (tSeq (tIfS (tTest (tOp (uEq K) (tOp (uIx K) (tVar 0) (tC (.int 0))) (tC (.str "in")))) (tRet (tMk K c "OneOf" ["field", "choices"] (sp_OneOf_init K c) (tCons (tOp (uIx K) (tVar 0) (tC (.int 1))) (tCons (tCB (uList K) (tCons (tOp (uIx K) (tVar 0) (tC (.int 2))) tNil)) tNil)))) tNext)
    (tSeq (tIfS (tTest (tOp (uEq K) (tOp (uIx K) (tVar 0) (tC (.int 0))) (tC (.str "not")))) tNever tNext)
    (tSeq (tIfS (tTest (tOp (uEq K) (tOp (uIx K) (tVar 0) (tC (.int 0))) (tC (.str "and")))) tNever tNext)
    tNever))))))
def P_law_built : PSt :=
    (pSeq (pIfS (pTest (pOp pEq (pOp pIx (pVar 0) (pC (.int 0))) (pC (.str "every")))) pNever pNext)
    (pSeq (pIfS (pTest (pOp pEq (pOp pIx (pVar 0) (pC (.int 0))) (pC (.str "has")))) (pRet (pMk "Has" ["field"] ps_Has_init (pCons (pOp pIx (pVar 0) (pC (.int 1))) pNil))) pNext)
    (pSeq (pIfS (pTest (pOp pEq (pOp pIx (pVar 0) (pC (.int 0))) (pC (.str "compare")))) (pRet (pMk "Compare" ["field", "sign", "value"] ps_Compare_init (pCons (pOp pIx (pVar 0) (pC (.int 1))) (pCons (pOp pIx (pVar 0) (pC (.int 2))) (pCons (pOp pIx (pVar 0) (pC (.int 3))) pNil))))) pNext)
    (pSeq (pIfS (pTest (pOp pEq (pOp pIx (pVar 0) (pC (.int 0))) (pC (.str "in")))) (pRet (pMk "OneOf" ["field", "choices"] ps_OneOf_init (pCons (pOp pIx (pVar 0) (pC (.int 1))) (pCons (pCB pList (pCons (pOp pIx (pVar 0) (pC (.int 2))) pNil)) pNil)))) pNext)
    (pSeq (pIfS (pTest (pOp pEq (pOp pIx (pVar 0) (pC (.int 0))) (pC (.str "not")))) pNever pNext)
    (pSeq (pIfS (pTest (pOp pEq (pOp pIx (pVar 0) (pC (.int 0))) (pC (.str "and")))) pNever pNext)
    pNever))))))
theorem S_law_built {K : PySem.W.Frag} {c : CEnv} : SimS ⟨K, c, W0, fun _ _ => False⟩ (T_law_built K c) (P_law_built) := by
  unfold T_law_built P_law_built
  exact (sim_seq (sim_ifS (sim_test (sim_op sim_eq (sim_op sim_ix (sim_var 0) (sim_int _)) (sim_str _))) sim_never sim_next)
    (sim_seq (sim_ifS (sim_test (sim_op sim_eq (sim_op sim_ix (sim_var 0) (sim_int _)) (sim_str _))) (sim_ret (sim_mk b_Has_init (sim_cons (sim_op sim_ix (sim_var 0) (sim_int _)) sim_nil))) sim_next)
    (sim_seq (sim_ifS (sim_test (sim_op sim_eq (sim_op sim_ix (sim_var 0) (sim_int _)) (sim_str _))) (sim_ret (sim_mk b_Compare_init (sim_cons (sim_op sim_ix (sim_var 0) (sim_int _)) (sim_cons (sim_op sim_ix (sim_var 0) (sim_int _)) (sim_cons (sim_op sim_ix (sim_var 0) (sim_int _)) sim_nil))))) sim_next)
    (sim_seq (sim_ifS (sim_test (sim_op sim_eq (sim_op sim_ix (sim_var 0) (sim_int _)) (sim_str _))) (sim_ret (sim_mk b_OneOf_init (sim_cons (sim_op sim_ix (sim_var 0) (sim_int _)) (sim_cons (sim_cb sim_list (sim_cons (sim_op sim_ix (sim_var 0) (sim_int _)) sim_nil)) sim_nil)))) sim_next)
    (sim_seq (sim_ifS (sim_test (sim_op sim_eq (sim_op sim_ix (sim_var 0) (sim_int _)) (sim_str _))) sim_never sim_next)
    (sim_seq (sim_ifS (sim_test (sim_op sim_eq (sim_op sim_ix (sim_var 0) (sim_int _)) (sim_str _))) sim_never sim_next)
    sim_never))))))

theorem q_law_built : ∀ ds Q E, ps_law_built ds Q E → ds.length = 1 ∧ P_law_built { nx := fun _ => Q .non, rt := Q } (startP 1 ds) := by
  rintro _ Q E ⟨l, rfl, q⟩
  refine ⟨rfl, ?_⟩
  cases l with
  | has f =>
    show P_law_built _ [some (.d (.tup [.str "has", .str f]))]
    unfold P_law_built
    walk_at "pk"
    exact ⟨_, rfl, q⟩
  | cmp f s w =>
    show P_law_built _ [some (.d (.tup [.str "compare", .str f, .str s, w.d]))]
    unfold P_law_built
    walk_at "pk"
    exact ⟨_, _, _, rfl, q⟩
  | one f l =>
    show P_law_built _ [some (.d (.tup [.str "in", .str f, .lst (l.map Wo.d)]))]
    unfold P_law_built
    walk_at "pk"
    exact ⟨_, _, _, rfl, .inl rfl, q⟩
theorem w_law_built {K : PySem.W.Frag} {c : CEnv} : Wd (T_law_built K c) N_law_built 1 (sp_law_built K c) := wd_lift S_law_built q_law_built

theorem FF.outs_eq {f : FF} {l : Lf} {Q : Da → Prop} {ρ : PEnv} (lo : f.LOk) (ok : l.Ok) (q : Q (o2D (f.outs l))) {f3 l4 : Nat} (h3 : ρ[f3]? = some (some (.d f.row))) (h4 : ρ[l4]? = some (some (.d l.row))) :
    pAny (pMt "Range" "outcomes" ps_Range_outcomes (pCal ps_law_made (pCons (pVar f3) pNil)) (pCons (pCal ps_law_built (pCons (pVar l4) pNil)) pNil)) (pMt "Values" "outcomes" ps_Values_outcomes (pCal ps_law_made (pCons (pVar f3) pNil)) (pCons (pCal ps_law_built (pCons (pVar l4) pNil)) pNil)) ρ Q := by
  cases f with
  | rg f a b lack =>
    refine p_anyL (p_mt (p_cal (p_cons (p_var h3 (p_nil ⟨_, rfl, _, _, rfl, by decide +kernel, ?_⟩)))))
    exact p_cons (p_cal (p_cons (p_var h4 (p_nil ⟨l, rfl, p_nil ⟨.rg f a b lack, l, rfl, trivial, ok, q⟩⟩))))
  | vs f ch lack =>
    refine p_anyR (p_mt (p_cal (p_cons (p_var h3 (p_nil ⟨_, rfl, _, _, rfl, by decide +kernel, ?_⟩)))))
    exact p_cons (p_cal (p_cons (p_var h4 (p_nil ⟨l, rfl, p_nil ⟨.vs f ch lack, l, rfl, FF.ok (f := .vs f ch lack) lo, ok, q⟩⟩))))
theorem p_neT {l : List Da} {Q : Da → Prop} (h : l.all flD = true) (k : Q (.bl false)) : pNe (.tup l) (.tup l) Q := ⟨1, by decide, Cq.tup (Cq.flats h h), by rw [show eqD (.tup l) (.tup l) = true by simp only [eqD]; exact eqDs_rf h]; exact k⟩
abbrev N_law : List Str := ["_law_script", "_law_state", "_law_turn", "_law_fact", "_law_tree", "_law_actual", "_law_due"]
-- law(_law_script): slots 0:_law_script 1:_law_state 2:_law_turn 3:_law_fact 4:_law_tree 5:_law_actual 6:_law_due
def T_law_b1 (K : PySem.W.Frag) (c : CEnv) : TS :=
    (tSeq (tAsg (tCal (sp_law_field_fact K c) (tCons (tVar 1) tNil)) (gName 3))
    (tSeq (tAsg (tCal (sp_law_leaf K c) (tCons (tVar 1) tNil)) (gName 4))
    (tCut (tIfS (tAnd (tTest (tOp uGt (tCal (sp_law_next K) (tCons (tVar 1) (tCons (tC (.int 3)) tNil))) (tC (.int 0)))) (tTest (tOp (uNe K) (tOp (uIx K) (tVar 4) (tC (.int 1))) (tOp (uIx K) (tVar 3) (tC (.int 1)))))) (tAsg (tTup (tCons (tC (.str "has")) (tCons (tOp (uIx K) (tVar 3) (tC (.int 1))) tNil))) (gName 4)) tNext)
    (tSeq (tAsg (tAny (tMt c "Range" "outcomes" (sp_Range_outcomes K c) (tCal (sp_law_made K c) (tCons (tVar 3) tNil)) (tCons (tCal (sp_law_built K c) (tCons (tVar 4) tNil)) tNil)) (tMt c "Values" "outcomes" (sp_Values_outcomes K c) (tCal (sp_law_made K c) (tCons (tVar 3) tNil)) (tCons (tCal (sp_law_built K c) (tCons (tVar 4) tNil)) tNil))) (gName 5))
    (tSeq (tAsg (tCal (sp_law_outcomes K c) (tCons (tVar 3) (tCons (tVar 4) tNil))) (gName 6))
    (tIfS (tTest (tOp uIs (tVar 6) (tC .non))) (tIfS (tTest (tOp uIsNot (tVar 5) (tC .non))) (tRet (tC (.bl false))) tNext) (tSeq (tIfS (tOr (tNot (tTru K (tCB (uIsi K) (tCons (tVar 5) (tCons (tC (.ty "tuple")) tNil))))) (tTest (tOp (uNe K) (tVar 5) (tVar 6)))) (tRet (tC (.bl false))) tNext)
    (tIfS (tOr (tNot (tTru K (tCB (uIsi K) (tCons (tOp (uIx K) (tVar 5) (tC (.int 0))) (tCons (tC (.ty "bool")) tNil))))) (tNot (tTru K (tCB (uIsi K) (tCons (tOp (uIx K) (tVar 5) (tC (.int 1))) (tCons (tC (.ty "bool")) tNil)))))) (tRet (tC (.bl false))) tNext))))))))
def T_law (K : PySem.W.Frag) (c : CEnv) : TS :=
    (tSeq (tAsg (tLst (tCons (tCB (uList K) (tCons (tVar 0) tNil)) (tCons (tC (.int 0)) (tCons (tC (.int 0)) tNil)))) (gName 1))
    (tSeq (tFor (iRng1 (tCons (tC (.int 8)) tNil)) (gName 2) (T_law_b1 K c))
    (tRet (tC (.bl true)))))
def U_law (K : PySem.W.Frag) (c : CEnv) : TS :=
    (tSeq (tFor (iRng1 (tCons (tC (.int 8)) tNil)) (gName 2) (T_law_b1 K c)) (tRet (tC (.bl true))))
def P_law_b1 : PSt :=
    (pSeq (pAsg (pCal ps_law_field_fact (pCons (pVar 1) pNil)) (pgName 3))
    (pSeq (pAsg (pCal ps_law_leaf (pCons (pVar 1) pNil)) (pgName 4))
    (pCut (pIfS (pAnd (pTest (pOp pGt (pCal ps_law_next (pCons (pVar 1) (pCons (pC (.int 3)) pNil))) (pC (.int 0)))) (pTest (pOp pNe (pOp pIx (pVar 4) (pC (.int 1))) (pOp pIx (pVar 3) (pC (.int 1)))))) (pAsg (pTup (pCons (pC (.str "has")) (pCons (pOp pIx (pVar 3) (pC (.int 1))) pNil))) (pgName 4)) pNext)
    (pSeq (pAsg (pAny (pMt "Range" "outcomes" ps_Range_outcomes (pCal ps_law_made (pCons (pVar 3) pNil)) (pCons (pCal ps_law_built (pCons (pVar 4) pNil)) pNil)) (pMt "Values" "outcomes" ps_Values_outcomes (pCal ps_law_made (pCons (pVar 3) pNil)) (pCons (pCal ps_law_built (pCons (pVar 4) pNil)) pNil))) (pgName 5))
    (pSeq (pAsg (pCal ps_law_outcomes (pCons (pVar 3) (pCons (pVar 4) pNil))) (pgName 6))
    (pIfS (pTest (pOp pIs (pVar 6) (pC .non))) (pIfS (pTest (pOp pIsNot (pVar 5) (pC .non))) (pRet (pC (.bl false))) pNext) (pSeq (pIfS (pOr (pNot (pTru (pCB pIsi (pCons (pVar 5) (pCons (pC (.ty "tuple")) pNil))))) (pTest (pOp pNe (pVar 5) (pVar 6)))) (pRet (pC (.bl false))) pNext)
    (pIfS (pOr (pNot (pTru (pCB pIsi (pCons (pOp pIx (pVar 5) (pC (.int 0))) (pCons (pC (.ty "bool")) pNil))))) (pNot (pTru (pCB pIsi (pCons (pOp pIx (pVar 5) (pC (.int 1))) (pCons (pC (.ty "bool")) pNil)))))) (pRet (pC (.bl false))) pNext))))))))
def P_law : PSt :=
    (pSeq (pFor (piRng1 (pCons (pC (.int 8)) pNil)) (pgName 2) P_law_b1)
    (pRet (pC (.bl true))))
theorem S_law {K : PySem.W.Frag} {c : CEnv} : SimS ⟨K, c, W0, fun _ _ => False⟩ (U_law K c) (P_law) := by
  unfold U_law P_law T_law_b1 P_law_b1
  exact (sim_seq (sim_for (sim_iRng1 (sim_cons (sim_int _) sim_nil)) (sim_gName 2) (sim_seq (sim_asg (sim_cal b_law_field_fact (sim_cons (sim_var 1) sim_nil)) (sim_gName 3))
    (sim_seq (sim_asg (sim_cal b_law_leaf (sim_cons (sim_var 1) sim_nil)) (sim_gName 4))
    (sim_cut (sim_ifS (sim_and (sim_test (sim_op sim_gt (sim_cal b_law_next (sim_cons (sim_var 1) (sim_cons (sim_int _) sim_nil))) (sim_int _))) (sim_test (sim_op sim_ne (sim_op sim_ix (sim_var 4) (sim_int _)) (sim_op sim_ix (sim_var 3) (sim_int _))))) (sim_asg (sim_tup (sim_cons (sim_str _) (sim_cons (sim_op sim_ix (sim_var 3) (sim_int _)) sim_nil))) (sim_gName 4)) sim_next)
    (sim_seq (sim_asg (sim_any (sim_mt b_Range_outcomes (sim_cal b_law_made (sim_cons (sim_var 3) sim_nil)) (sim_cons (sim_cal b_law_built (sim_cons (sim_var 4) sim_nil)) sim_nil)) (sim_mt b_Values_outcomes (sim_cal b_law_made (sim_cons (sim_var 3) sim_nil)) (sim_cons (sim_cal b_law_built (sim_cons (sim_var 4) sim_nil)) sim_nil))) (sim_gName 5))
    (sim_seq (sim_asg (sim_cal b_law_outcomes (sim_cons (sim_var 3) (sim_cons (sim_var 4) sim_nil))) (sim_gName 6))
    (sim_ifS (sim_test (sim_op sim_is (sim_var 6) sim_non)) (sim_ifS (sim_test (sim_op sim_isNot (sim_var 5) sim_non)) (sim_ret (sim_bl _)) sim_next) (sim_seq (sim_ifS (sim_or (sim_not (sim_tru (sim_cb sim_isi (sim_cons (sim_var 5) (sim_cons (sim_ty _) sim_nil))))) (sim_test (sim_op sim_ne (sim_var 5) (sim_var 6)))) (sim_ret (sim_bl _)) sim_next)
    (sim_ifS (sim_or (sim_not (sim_tru (sim_cb sim_isi (sim_cons (sim_op sim_ix (sim_var 5) (sim_int _)) (sim_cons (sim_ty _) sim_nil))))) (sim_not (sim_tru (sim_cb sim_isi (sim_cons (sim_op sim_ix (sim_var 5) (sim_int _)) (sim_cons (sim_ty _) sim_nil)))))) (sim_ret (sim_bl _)) sim_next)))))))))
    (sim_ret (sim_bl _)))

theorem q_law : P_law { nx := fun _ => False, rt := fun d => d = .bl true } (none :: some (.d .st) :: List.replicate 5 none) := by
  unfold P_law
  walk_at "pk"
  refine p_rng1 (by omega) ?_
  refine p_loopR (fun _ ρ => ∃ x2 x3 x4 x5 x6, ρ = [none, some (.d .st), x2, x3, x4, x5, x6]) ⟨_, _, _, _, _, rfl⟩ ?_ ?_
  · rintro i ρ hi ⟨x2, x3, x4, x5, x6, rfl⟩
    unfold P_law_b1
    walk_at "pk"
    refine ⟨rfl, fun f lo kf => ?_⟩
    walk_at "pk"
    refine ⟨rfl, fun l ok kl => ?_⟩
    walk_at "pk"
    refine p_cut (fun ρ => ∃ l : Lf, l.Ok ∧ l.Kd (kdN l.f) ∧ ρ = [none, some (.d .st), some (.d (.int (0 + i))), some (.d f.row), some (.d l.row), x5, x6]) ?_ ?_
    · have f1 : ∀ {Q : Da → Prop}, Q (.str f.f) → pIx f.row (.int 1) Q := fun h => by cases f <;> exact ⟨_, by with_unfolding_all rfl, h⟩
      have l1 : ∀ {Q : Da → Prop}, Q (.str l.f) → pIx l.row (.int 1) Q := fun h => by cases l <;> exact ⟨_, by with_unfolding_all rfl, h⟩
      walk_at "pk"
      refine next_c (by decide) (by decide) fun a a0 a1 => ?_
      walk_at "pk"
      refine z_ite (fun _ => ?_) (fun _ => ?_)
      · walk_at "pk"
        refine l1 ?_
        walk_at "pk"
        refine f1 ?_
        walk_at "pk"
        refine z_ite (fun _ => ?_) (fun _ => ?_)
        · walk_at "pk"
          refine f1 ?_
          walk_at "pk"
          exact ⟨.has f.f, trivial, trivial, rfl⟩
        · walk_at "pk"
          exact ⟨l, ok, kl, rfl⟩
      · walk_at "pk"
        exact ⟨l, ok, kl, rfl⟩
    · rintro ρ' ⟨l, ok, kl, rfl⟩
      walk_at "pz"
      refine FF.outs_eq lo ok ?_ rfl rfl
      walk_at "pz"
      refine ⟨f, l, rfl, lo, ok, fun e => ⟨kdN l.f, by rw [e]; exact kf, kl⟩, ?_⟩
      cases f.outs l with
      | none =>
        dsimp only [o2D]
        walk_at "pk"
        exact ⟨_, _, _, _, _, rfl⟩
      | some p =>
        dsimp only [o2D]
        walk_at "pk"
        refine p_neT (by rfl) ?_
        walk_at "pk"
        exact ⟨_, _, _, _, _, rfl⟩
  · rintro ρ ⟨x2, x3, x4, x5, x6, rfl⟩
    walk_at "pk"
theorem w_law {K : PySem.W.Frag} {c : CEnv} : Wd (T_law K c) N_law 1 (sp_law K) := by
  unfold T_law
  exact wd_law (c := c) S_law rfl q_law
/-! ### the text by places, and its defs, each once -/
def topS (i : Nat) : Stmt := PySem.Challenge.pw_surenear_k22_outcomes_of_one_fact.main.body.getD i (.Pass ⟨0, 0, 0, 0⟩)
section
variable {P : Program} {w : World} {K : PySem.W.Frag} {mg : Str → Option Value} {base : Heap} {c : CEnv}
abbrev s_law_row : Stmt := (topS 40)
theorem sc_law_row : FnScope N_law_row ["_law_script", "_law_k"] (defScope s_law_row) := ⟨rfl, rfl, rfl, by decide +kernel, rfl, by decide +kernel, by decide +kernel⟩
theorem ok_law_row (m_len : mg "len" = none) (m_int : mg "int" = none) {f : Addr} {fd : FuncData} (F : Fun K "_law_row" "_law_row" s_law_row f fd) : FnOk P w K mg base CX0 1 f fd ["_law_script", "_law_k"] (sp_law_row K) := by
  have sc := sc_law_row
  refine F.ok sc_law_row (fun vs H Q E h => ((w_law_row) vs H Q E h).1) (fun cdv A outer s H vs Q E hr h => ⟨T_law_row K, ?_, ((w_law_row) vs H Q E h).2⟩)
  exact (pss_cons (ps_set (i := 2) sc.nd rfl (by first | exact Or.inl rfl | exact Or.inr rfl) pe_int)
      (pss_cut (ps_if (pt_cmpR (op_uLt hr.units) (pv 1) (pe_callB call_uLen (by rfl) m_len (by decide +kernel) (pa_cons (pv 0) pa_nil)) (nomark _)) (pss_one (ps_set (i := 2) sc.nd rfl (by first | exact Or.inl rfl | exact Or.inr rfl) (pe_ix ix_uIx (pv 0) (pv 1) (fun _ _ => rfl)))) pss_nil)
      (pss_cut (ps_if (pt_cmpR (op_uLt hr.units) (pv 2) pe_int (nomark _)) (pss_one (ps_set (i := 2) sc.nd rfl (by first | exact Or.inl rfl | exact Or.inr rfl) (pe_op op_uSub (pe_op op_uMul (pe_un un_uNeg pe_int) (pv 2)) pe_int))) pss_nil)
      (pss_cut (ps_if (pt_cmpR (op_uLt hr.units) (pv 2) (pe_op op_uPow pe_int pe_int) (nomark _)) (pss_cons (ps_set (i := 3) sc.nd rfl (by first | exact Or.inl rfl | exact Or.inr rfl) (pe_op op_uMod (pe_callTy call_uInt (by rfl) m_int (by decide +kernel) (pa_cons (pe_op op_uAdd (pe_op op_uAdd (pe_op op_uMul (pv 2) pe_int) (pe_op op_uMul (pv 1) pe_int)) pe_int) pa_nil)) pe_int))
      (pss_cons (ps_set (i := 4) sc.nd rfl (by first | exact Or.inl rfl | exact Or.inr rfl) (pe_op op_uMod (pe_callTy call_uInt (by rfl) m_int (by decide +kernel) (pa_cons (pe_op op_uAdd (pe_op op_uAdd (pe_op op_uAdd (pe_op op_uMul (pv 3) pe_int) (pe_op op_uMul (pv 2) pe_int)) (pv 1)) pe_int) pa_nil)) pe_int))
      (pss_cons (ps_set (i := 5) sc.nd rfl (by first | exact Or.inl rfl | exact Or.inr rfl) (pe_op op_uMod (pe_callTy call_uInt (by rfl) m_int (by decide +kernel) (pa_cons (pe_op op_uAdd (pe_op op_uAdd (pe_op op_uMul (pv 4) pe_int) (pe_op op_uMul (pv 3) (pv 4))) pe_int) pa_nil)) pe_int))
      (pss_one (ps_set (i := 2) sc.nd rfl (by first | exact Or.inl rfl | exact Or.inr rfl) (pe_op op_uAdd (pe_op op_uAdd (pv 3) (pe_op op_uMul (pv 4) pe_int)) (pe_op op_uMul (pv 5) (pe_op op_uPow pe_int pe_int)))))))) pss_nil)
      (pss_one (ps_ret (pv 2)))))))
abbrev s_law_next : Stmt := (topS 41)
theorem sc_law_next : FnScope N_law_next ["_law_state", "_law_many"] (defScope s_law_next) := ⟨rfl, rfl, rfl, by decide +kernel, rfl, by decide +kernel, by decide +kernel⟩
theorem ok_law_next (D_law_row : Dfn P w K mg base 1 "_law_row" ["_law_script", "_law_k"] (sp_law_row K)) (m_int : mg "int" = none) {f : Addr} {fd : FuncData} (F : Fun K "_law_next" "_law_next" s_law_next f fd) : FnOk P w K mg base CX0 2 f fd ["_law_state", "_law_many"] (sp_law_next K) := by
  have sc := sc_law_next
  refine F.ok sc_law_next (fun vs H Q E h => ((w_law_next) vs H Q E h).1) (fun cdv A outer s H vs Q E hr h => ⟨T_law_next K, ?_, ((w_law_next) vs H Q E h).2⟩)
  exact (pss_cut (ps_if (pt_cmpR (op_uLt hr.units) (pe_ix ix_uIx (pv 0) pe_int (fun _ _ => rfl)) (pv 1) (nomark _)) (pss_cons (ps_asg (z_call D_law_row (hr.mono (by decide)) (by rfl) (pa_cons (pe_ix ix_uIx (pv 0) pe_int (fun _ _ => rfl)) (pa_cons (pe_ix ix_uIx (pv 0) pe_int (fun _ _ => rfl)) pa_nil))) (pg_sub (pv 0) pe_int set_list))
      (pss_one (ps_asg (pe_op op_uAdd (pe_ix ix_uIx (pv 0) pe_int (fun _ _ => rfl)) pe_int) (pg_sub (pv 0) pe_int set_list)))) pss_nil)
      (pss_cons (ps_set (i := 2) sc.nd rfl (by first | exact Or.inl rfl | exact Or.inr rfl) (pe_op op_uMod (pe_callTy call_uInt (by rfl) m_int (by decide +kernel) (pa_cons (pe_ix ix_uIx (pv 0) pe_int (fun _ _ => rfl)) pa_nil)) (pv 1)))
      (pss_cons (ps_asg (pe_op op_uDiv (pe_ix ix_uIx (pv 0) pe_int (fun _ _ => rfl)) (pv 1)) (pg_sub (pv 0) pe_int set_list))
      (pss_one (ps_ret (pv 2))))))
abbrev s_law_field_fact : Stmt := (topS 47)
theorem sc_law_field_fact : FnScope N_law_field_fact ["_law_state"] (defScope s_law_field_fact) := ⟨rfl, rfl, rfl, by decide +kernel, rfl, by decide +kernel, by decide +kernel⟩
theorem ok_law_field_fact (D_law_next : Dfn P w K mg base 2 "_law_next" ["_law_state", "_law_many"] (sp_law_next K)) {f : Addr} {fd : FuncData} (F : Fun K "_law_field_fact" "_law_field_fact" s_law_field_fact f fd) : FnOk P w K mg base CX0 3 f fd ["_law_state"] (sp_law_field_fact K c) := by
  have sc := sc_law_field_fact
  refine F.ok sc_law_field_fact (fun vs H Q E h => ((w_law_field_fact (c := c)) vs H Q E h).1) (fun cdv A outer s H vs Q E hr h => ⟨T_law_field_fact K, ?_, ((w_law_field_fact (c := c)) vs H Q E h).2⟩)
  exact (pss_cons (ps_set (i := 1) sc.nd rfl (by first | exact Or.inl rfl | exact Or.inr rfl) (pe_ix ix_uIx (pe_lst (pa_cons pe_str (pa_cons pe_str (pa_cons pe_str pa_nil)))) (z_call D_law_next (hr.mono (by decide)) (by rfl) (pa_cons (pv 0) (pa_cons pe_int pa_nil))) (fun _ _ => rfl)))
      (pss_cons (ps_if (pt_cmpR (op_uEq hr.units) (z_call D_law_next (hr.mono (by decide)) (by rfl) (pa_cons (pv 0) (pa_cons pe_int pa_nil))) pe_int (nomark _)) (pss_cons (ps_set (i := 2) sc.nd rfl (by first | exact Or.inl rfl | exact Or.inr rfl) (pe_op op_uSub (z_call D_law_next (hr.mono (by decide)) (by rfl) (pa_cons (pv 0) (pa_cons pe_int pa_nil))) pe_int))
      (pss_one (ps_ret (pe_tup (pa_cons pe_str (pa_cons pe_str (pa_cons (pv 2) (pa_cons (pe_op op_uAdd (pv 2) (z_call D_law_next (hr.mono (by decide)) (by rfl) (pa_cons (pv 0) (pa_cons pe_int pa_nil)))) (pa_cons (pv 1) pa_nil))))))))) pss_nil)
      (pss_cons (ps_if (pt_cmpR (op_uEq hr.units) (z_call D_law_next (hr.mono (by decide)) (by rfl) (pa_cons (pv 0) (pa_cons pe_int pa_nil))) pe_int (nomark _)) (pss_one (ps_ret (pe_tup (pa_cons pe_str (pa_cons pe_str (pa_cons (pe_slice sl_uSl (pe_lst (pa_cons pe_str (pa_cons pe_str (pa_cons pe_str (pa_cons pe_str pa_nil))))) po_none (po_some (z_call D_law_next (hr.mono (by decide)) (by rfl) (pa_cons (pv 0) (pa_cons pe_int pa_nil))))) (pa_cons (pv 1) pa_nil))))))) pss_nil)
      (pss_one (ps_ret (pe_tup (pa_cons pe_str (pa_cons pe_str (pa_cons (pe_slice sl_uSl (pe_lst (pa_cons pe_bl (pa_cons pe_bl pa_nil))) po_none (po_some (pe_op op_uAdd pe_int (z_call D_law_next (hr.mono (by decide)) (by rfl) (pa_cons (pv 0) (pa_cons pe_int pa_nil)))))) (pa_cons (pv 1) pa_nil))))))))))
abbrev s_law_leaf : Stmt := (topS 48)
theorem sc_law_leaf : FnScope N_law_leaf ["_law_state"] (defScope s_law_leaf) := ⟨rfl, rfl, rfl, by decide +kernel, rfl, by decide +kernel, by decide +kernel⟩
theorem ok_law_leaf (D_law_next : Dfn P w K mg base 2 "_law_next" ["_law_state", "_law_many"] (sp_law_next K)) (m_range : mg "range" = none) (m_len : mg "len" = none) {f : Addr} {fd : FuncData} (F : Fun K "_law_leaf" "_law_leaf" s_law_leaf f fd) : FnOk P w K mg base CX0 3 f fd ["_law_state"] (sp_law_leaf K c) := by
  have sc := sc_law_leaf
  refine F.ok sc_law_leaf (fun vs H Q E h => ((w_law_leaf (c := c)) vs H Q E h).1) (fun cdv A outer s H vs Q E hr h => ⟨T_law_leaf K, ?_, ((w_law_leaf (c := c)) vs H Q E h).2⟩)
  exact (pss_cons (ps_set (i := 1) sc.nd rfl (by first | exact Or.inl rfl | exact Or.inr rfl) (z_call D_law_next (hr.mono (by decide)) (by rfl) (pa_cons (pv 0) (pa_cons pe_int pa_nil))))
      (pss_cons (ps_set (i := 2) sc.nd rfl (by first | exact Or.inl rfl | exact Or.inr rfl) (pe_ix ix_uIx (pe_lst (pa_cons pe_str (pa_cons pe_str (pa_cons pe_str (pa_cons pe_str pa_nil))))) (z_call D_law_next (hr.mono (by decide)) (by rfl) (pa_cons (pv 0) (pa_cons pe_int pa_nil))) (fun _ _ => rfl)))
      (pss_cons (ps_set (i := 3) sc.nd rfl (by first | exact Or.inl rfl | exact Or.inr rfl) (pe_ix ix_uIx (pe_lst (pa_cons (pe_lst (pa_cons (pe_un un_uNeg pe_int) (pa_cons (pe_un un_uNeg pe_int) (pa_cons pe_int (pa_cons pe_int (pa_cons pe_int (pa_cons pe_int pa_nil))))))) (pa_cons (pe_lst (pa_cons pe_str (pa_cons pe_str (pa_cons pe_str (pa_cons pe_str pa_nil))))) (pa_cons (pe_lst (pa_cons pe_bl (pa_cons pe_bl pa_nil))) pa_nil)))) (pe_bm PySem.F.plainAttrs_list PySem.F.slot_list_index PySem.F.type_list_index mt_index (pe_lst (pa_cons pe_str (pa_cons pe_str (pa_cons pe_str pa_nil)))) (pa_cons (pv 2) pa_nil)) (fun _ _ => rfl)))
      (pss_cons (ps_if (pt_cmpR (op_uEq hr.units) (pv 1) pe_int (nomark _)) (pss_one (ps_ret (pe_tup (pa_cons pe_str (pa_cons (pv 2) pa_nil))))) pss_nil)
      (pss_cons (ps_if (pt_cmpR (op_uEq hr.units) (pv 1) pe_int (nomark _)) (pss_one (ps_ret (pe_tup (pa_cons pe_str (pa_cons (pv 2) (pa_cons (pe_lc (own := [("_law_k", 4)]) (g := (gName 4)) (tt := tYes) rfl sc.nd (pi_range1 (by rfl) m_range (pa_cons (pe_op op_uAdd pe_int (z_call D_law_next (hr.mono (by decide)) (by rfl) (pa_cons (pv 0) (pa_cons pe_int pa_nil)))) pa_nil)) (blkOk_by (N := N_law_leaf) (sc := defScope s_law_leaf) (by decide +kernel)) (fun _ _ _ _ _ => (pg_name (i := 4) sc.nd rfl (by first | exact Or.inl rfl | exact Or.inr rfl))) (fun _ _ _ _ _ => pts_nil) (fun _ _ _ _ _ => (pe_ix ix_uIx (pv 3) (z_call D_law_next (hr.mono (by decide)) (by rfl) (pa_cons (pv 0) (pa_cons (pe_callB call_uLen (by rfl) m_len (by decide +kernel) (pa_cons (pv 3) pa_nil)) pa_nil))) (fun _ _ => rfl)))) pa_nil)))))) pss_nil)
      (pss_one (ps_ret (pe_tup (pa_cons pe_str (pa_cons (pv 2) (pa_cons (pe_ix ix_uIx (pe_lst (pa_cons pe_str (pa_cons pe_str (pa_cons pe_str (pa_cons pe_str (pa_cons pe_str (pa_cons pe_str pa_nil))))))) (z_call D_law_next (hr.mono (by decide)) (by rfl) (pa_cons (pv 0) (pa_cons pe_int pa_nil))) (fun _ _ => rfl)) (pa_cons (pe_ix ix_uIx (pv 3) (z_call D_law_next (hr.mono (by decide)) (by rfl) (pa_cons (pv 0) (pa_cons (pe_callB call_uLen (by rfl) m_len (by decide +kernel) (pa_cons (pv 3) pa_nil)) pa_nil))) (fun _ _ => rfl)) pa_nil))))))))))))
abbrev s_FieldFact_init : Stmt := (inClass (topS 27) 0)
theorem sc_FieldFact_init : FnScope N_FieldFact_init ["self", "field", "lack"] (defScope s_FieldFact_init) := ⟨rfl, rfl, rfl, by decide +kernel, rfl, by decide +kernel, by decide +kernel⟩
theorem ok_FieldFact_init {f : Addr} {fd : FuncData} (F : Fun K "__init__" "FieldFact.__init__" s_FieldFact_init f fd) : FnOk P w K mg base CX0 1 f fd ["self", "field", "lack"] (sp_FieldFact_init K c) := by
  have sc := sc_FieldFact_init
  refine F.ok sc_FieldFact_init (fun vs H Q E h => ((w_FieldFact_init (c := c)) vs H Q E h).1) (fun cdv A outer s H vs Q E hr h => ⟨T_FieldFact_init K, ?_, ((w_FieldFact_init (c := c)) vs H Q E h).2⟩)
  exact (pss_cons (ps_fld (pv 0) (pv 1) rfl)
      (pss_one (ps_fld (pv 0) (pv 2) rfl)))
abbrev s_Range_init : Stmt := (inClass (topS 28) 0)
theorem sc_Range_init : FnScope N_Range_init ["self", "field", "low", "high", "lack"] (defScope s_Range_init) := ⟨rfl, rfl, rfl, by decide +kernel, rfl, by decide +kernel, by decide +kernel⟩
theorem ok_Range_init (C_FieldFact : ClsF K mg c "FieldFact" ["field", "lack"]) (S_FieldFact_init : Sup P w K mg base 1 (c.cls "FieldFact") "__init__" ["self", "field", "lack"] (sp_FieldFact_init K c)) {f : Addr} {fd : FuncData} (F : Fun K "__init__" "Range.__init__" s_Range_init f fd) : FnOk P w K mg base CX0 2 f fd ["self", "field", "low", "high", "lack"] (sp_Range_init K c) := by
  have sc := sc_Range_init
  refine F.ok sc_Range_init (fun vs H Q E h => ((w_Range_init (c := c)) vs H Q E h).1) (fun cdv A outer s H vs Q E hr h => ⟨T_Range_init K c, ?_, ((w_Range_init (c := c)) vs H Q E h).2⟩)
  exact (pss_cons (ps_expr (z_sup C_FieldFact.mg S_FieldFact_init (hr.mono (by decide)) (by rfl) (pa_cons (pv 0) (pa_cons (pv 1) (pa_cons (pv 4) pa_nil)))))
      (pss_cons (ps_fld (pv 0) (pv 2) rfl)
      (pss_one (ps_fld (pv 0) (pv 3) rfl))))
abbrev s_Values_init : Stmt := (inClass (topS 29) 0)
theorem sc_Values_init : FnScope N_Values_init ["self", "field", "choices", "lack"] (defScope s_Values_init) := ⟨rfl, rfl, rfl, by decide +kernel, rfl, by decide +kernel, by decide +kernel⟩
theorem ok_Values_init (C_FieldFact : ClsF K mg c "FieldFact" ["field", "lack"]) (S_FieldFact_init : Sup P w K mg base 1 (c.cls "FieldFact") "__init__" ["self", "field", "lack"] (sp_FieldFact_init K c)) (m_tuple : mg "tuple" = none) {f : Addr} {fd : FuncData} (F : Fun K "__init__" "Values.__init__" s_Values_init f fd) : FnOk P w K mg base CX0 2 f fd ["self", "field", "choices", "lack"] (sp_Values_init K c) := by
  have sc := sc_Values_init
  refine F.ok sc_Values_init (fun vs H Q E h => ((w_Values_init (c := c)) vs H Q E h).1) (fun cdv A outer s H vs Q E hr h => ⟨T_Values_init K c, ?_, ((w_Values_init (c := c)) vs H Q E h).2⟩)
  exact (pss_cons (ps_expr (z_sup C_FieldFact.mg S_FieldFact_init (hr.mono (by decide)) (by rfl) (pa_cons (pv 0) (pa_cons (pv 1) (pa_cons (pv 3) pa_nil)))))
      (pss_one (ps_fld (pv 0) (pe_callTy call_uTuple (by rfl) m_tuple (by decide +kernel) (pa_cons (pv 2) pa_nil)) rfl)))
abbrev s_law_made : Stmt := (topS 42)
theorem sc_law_made : FnScope N_law_made ["_law_fact"] (defScope s_law_made) := ⟨rfl, rfl, rfl, by decide +kernel, rfl, by decide +kernel, by decide +kernel⟩
theorem ok_law_made (C_Range : ClsF K mg c "Range" ["field", "lack", "low", "high"]) (C_Values : ClsF K mg c "Values" ["field", "lack", "choices"]) (K_Range_init_3_lack : MkrK CX0 P w K mg base 2 (c.cls "Range") ["self", "field", "low", "high", "lack"] (sp_Range_init K c) 3 ["lack"] [] [(true, 0)]) (K_Values_init_2_lack : MkrK CX0 P w K mg base 2 (c.cls "Values") ["self", "field", "choices", "lack"] (sp_Values_init K c) 2 ["lack"] [] [(true, 0)]) (m_list : mg "list" = none) {f : Addr} {fd : FuncData} (F : Fun K "_law_made" "_law_made" s_law_made f fd) : FnOk P w K mg base CX0 4 f fd ["_law_fact"] (sp_law_made K c) := by
  have sc := sc_law_made
  refine F.ok sc_law_made (fun vs H Q E h => ((w_law_made (c := c)) vs H Q E h).1) (fun cdv A outer s H vs Q E hr h => ⟨T_law_made K c, ?_, ((w_law_made (c := c)) vs H Q E h).2⟩)
  exact (pss_cons (ps_if (pt_cmpR (op_uEq hr.units) (pe_ix ix_uIx (pv 0) pe_int (fun _ _ => rfl)) pe_str (nomark _)) (pss_one ps_never) pss_nil)
      (pss_cons (ps_if (pt_cmpR (op_uEq hr.units) (pe_ix ix_uIx (pv 0) pe_int (fun _ _ => rfl)) pe_str (nomark _)) (pss_one ps_never) pss_nil)
      (pss_cons (ps_if (pt_cmpR (op_uEq hr.units) (pe_ix ix_uIx (pv 0) pe_int (fun _ _ => rfl)) pe_str (nomark _)) (pss_one ps_never) pss_nil)
      (pss_cons (ps_if (pt_cmpR (op_uEq hr.units) (pe_ix ix_uIx (pv 0) pe_int (fun _ _ => rfl)) pe_str (nomark _)) (pss_one ps_never) pss_nil)
      (pss_cons (ps_if (pt_cmpR (op_uEq hr.units) (pe_ix ix_uIx (pv 0) pe_int (fun _ _ => rfl)) pe_str (nomark _)) (pss_one ps_never) pss_nil)
      (pss_cons (ps_if (pt_cmpR (op_uEq hr.units) (pe_ix ix_uIx (pv 0) pe_int (fun _ _ => rfl)) pe_str (nomark _)) (pss_one (ps_ret (z_makeK C_Range K_Range_init_3_lack pass00 (hr.mono (by decide)) (by rfl) (pa_cons (pe_ix ix_uIx (pv 0) pe_int (fun _ _ => rfl)) (pa_cons (pe_ix ix_uIx (pv 0) pe_int (fun _ _ => rfl)) (pa_cons (pe_ix ix_uIx (pv 0) pe_int (fun _ _ => rfl)) pa_nil))) (pk_cons (pe_ix ix_uIx (pv 0) pe_int (fun _ _ => rfl)) pk_nil)))) pss_nil)
      (pss_cons (ps_if (pt_cmpR (op_uEq hr.units) (pe_ix ix_uIx (pv 0) pe_int (fun _ _ => rfl)) pe_str (nomark _)) (pss_one (ps_ret (z_makeK C_Values K_Values_init_2_lack pass00 (hr.mono (by decide)) (by rfl) (pa_cons (pe_ix ix_uIx (pv 0) pe_int (fun _ _ => rfl)) (pa_cons (pe_callTy call_uList (by rfl) m_list (by decide +kernel) (pa_cons (pe_ix ix_uIx (pv 0) pe_int (fun _ _ => rfl)) pa_nil)) pa_nil)) (pk_cons (pe_ix ix_uIx (pv 0) pe_int (fun _ _ => rfl)) pk_nil)))) pss_nil)
      (pss_cons (ps_if (pt_cmpR (op_uEq hr.units) (pe_ix ix_uIx (pv 0) pe_int (fun _ _ => rfl)) pe_str (nomark _)) (pss_one ps_never) pss_nil)
      (pss_one ps_never)))))))))
abbrev s_Has_init : Stmt := (inClass (topS 11) 0)
theorem sc_Has_init : FnScope N_Has_init ["self", "field"] (defScope s_Has_init) := ⟨rfl, rfl, rfl, by decide +kernel, rfl, by decide +kernel, by decide +kernel⟩
theorem ok_Has_init {f : Addr} {fd : FuncData} (F : Fun K "__init__" "Has.__init__" s_Has_init f fd) : FnOk P w K mg base CX0 1 f fd ["self", "field"] (sp_Has_init K c) := by
  have sc := sc_Has_init
  refine F.ok sc_Has_init (fun vs H Q E h => ((w_Has_init (c := c)) vs H Q E h).1) (fun cdv A outer s H vs Q E hr h => ⟨T_Has_init K, ?_, ((w_Has_init (c := c)) vs H Q E h).2⟩)
  exact (pss_one (ps_fld (pv 0) (pv 1) rfl))
abbrev s_Compare_init : Stmt := (inClass (topS 12) 0)
theorem sc_Compare_init : FnScope N_Compare_init ["self", "field", "sign", "value"] (defScope s_Compare_init) := ⟨rfl, rfl, rfl, by decide +kernel, rfl, by decide +kernel, by decide +kernel⟩
theorem ok_Compare_init {f : Addr} {fd : FuncData} (F : Fun K "__init__" "Compare.__init__" s_Compare_init f fd) : FnOk P w K mg base CX0 1 f fd ["self", "field", "sign", "value"] (sp_Compare_init K c) := by
  have sc := sc_Compare_init
  refine F.ok sc_Compare_init (fun vs H Q E h => ((w_Compare_init (c := c)) vs H Q E h).1) (fun cdv A outer s H vs Q E hr h => ⟨T_Compare_init K, ?_, ((w_Compare_init (c := c)) vs H Q E h).2⟩)
  exact (pss_cons (ps_fld (pv 0) (pv 1) rfl)
      (pss_cons (ps_fld (pv 0) (pv 2) rfl)
      (pss_one (ps_fld (pv 0) (pv 3) rfl))))
abbrev s_OneOf_init : Stmt := (inClass (topS 13) 0)
theorem sc_OneOf_init : FnScope N_OneOf_init ["self", "field", "choices"] (defScope s_OneOf_init) := ⟨rfl, rfl, rfl, by decide +kernel, rfl, by decide +kernel, by decide +kernel⟩
theorem ok_OneOf_init (m_tuple : mg "tuple" = none) {f : Addr} {fd : FuncData} (F : Fun K "__init__" "OneOf.__init__" s_OneOf_init f fd) : FnOk P w K mg base CX0 1 f fd ["self", "field", "choices"] (sp_OneOf_init K c) := by
  have sc := sc_OneOf_init
  refine F.ok sc_OneOf_init (fun vs H Q E h => ((w_OneOf_init (c := c)) vs H Q E h).1) (fun cdv A outer s H vs Q E hr h => ⟨T_OneOf_init K, ?_, ((w_OneOf_init (c := c)) vs H Q E h).2⟩)
  exact (pss_cons (ps_fld (pv 0) (pv 1) rfl)
      (pss_one (ps_fld (pv 0) (pe_callTy call_uTuple (by rfl) m_tuple (by decide +kernel) (pa_cons (pv 2) pa_nil)) rfl)))
abbrev s_law_built : Stmt := (topS 43)
theorem sc_law_built : FnScope N_law_built ["_law_tree"] (defScope s_law_built) := ⟨rfl, rfl, rfl, by decide +kernel, rfl, by decide +kernel, by decide +kernel⟩
theorem ok_law_built (C_Has : ClsF K mg c "Has" ["field"]) (C_Compare : ClsF K mg c "Compare" ["field", "sign", "value"]) (C_OneOf : ClsF K mg c "OneOf" ["field", "choices"]) (K_Has_init : Mkr P w K mg base 1 (c.cls "Has") ["self", "field"] (sp_Has_init K c)) (K_Compare_init : Mkr P w K mg base 1 (c.cls "Compare") ["self", "field", "sign", "value"] (sp_Compare_init K c)) (K_OneOf_init : Mkr P w K mg base 1 (c.cls "OneOf") ["self", "field", "choices"] (sp_OneOf_init K c)) (m_list : mg "list" = none) {f : Addr} {fd : FuncData} (F : Fun K "_law_built" "_law_built" s_law_built f fd) : FnOk P w K mg base CX0 3 f fd ["_law_tree"] (sp_law_built K c) := by
  have sc := sc_law_built
  refine F.ok sc_law_built (fun vs H Q E h => ((w_law_built (c := c)) vs H Q E h).1) (fun cdv A outer s H vs Q E hr h => ⟨T_law_built K c, ?_, ((w_law_built (c := c)) vs H Q E h).2⟩)
  exact (pss_cons (ps_if (pt_cmpR (op_uEq hr.units) (pe_ix ix_uIx (pv 0) pe_int (fun _ _ => rfl)) pe_str (nomark _)) (pss_one ps_never) pss_nil)
      (pss_cons (ps_if (pt_cmpR (op_uEq hr.units) (pe_ix ix_uIx (pv 0) pe_int (fun _ _ => rfl)) pe_str (nomark _)) (pss_one (ps_ret (z_make C_Has K_Has_init (hr.mono (by decide)) (by rfl) (pa_cons (pe_ix ix_uIx (pv 0) pe_int (fun _ _ => rfl)) pa_nil)))) pss_nil)
      (pss_cons (ps_if (pt_cmpR (op_uEq hr.units) (pe_ix ix_uIx (pv 0) pe_int (fun _ _ => rfl)) pe_str (nomark _)) (pss_one (ps_ret (z_make C_Compare K_Compare_init (hr.mono (by decide)) (by rfl) (pa_cons (pe_ix ix_uIx (pv 0) pe_int (fun _ _ => rfl)) (pa_cons (pe_ix ix_uIx (pv 0) pe_int (fun _ _ => rfl)) (pa_cons (pe_ix ix_uIx (pv 0) pe_int (fun _ _ => rfl)) pa_nil)))))) pss_nil)
      (pss_cons (ps_if (pt_cmpR (op_uEq hr.units) (pe_ix ix_uIx (pv 0) pe_int (fun _ _ => rfl)) pe_str (nomark _)) (pss_one (ps_ret (z_make C_OneOf K_OneOf_init (hr.mono (by decide)) (by rfl) (pa_cons (pe_ix ix_uIx (pv 0) pe_int (fun _ _ => rfl)) (pa_cons (pe_callTy call_uList (by rfl) m_list (by decide +kernel) (pa_cons (pe_ix ix_uIx (pv 0) pe_int (fun _ _ => rfl)) pa_nil)) pa_nil))))) pss_nil)
      (pss_cons (ps_if (pt_cmpR (op_uEq hr.units) (pe_ix ix_uIx (pv 0) pe_int (fun _ _ => rfl)) pe_str (nomark _)) (pss_one ps_never) pss_nil)
      (pss_cons (ps_if (pt_cmpR (op_uEq hr.units) (pe_ix ix_uIx (pv 0) pe_int (fun _ _ => rfl)) pe_str (nomark _)) (pss_one ps_never) pss_nil)
      (pss_one ps_never)))))))
abbrev s_is_about : Stmt := (topS 26)
theorem sc_is_about : FnScope N_is_about ["condition", "field"] (defScope s_is_about) := ⟨rfl, rfl, rfl, by decide +kernel, rfl, by decide +kernel, by decide +kernel⟩
theorem ok_is_about (C_OneOf : ClsF K mg c "OneOf" ["field", "choices"]) (I_OneOf : IsF K c "OneOf") (C_Compare : ClsF K mg c "Compare" ["field", "sign", "value"]) (I_Compare : IsF K c "Compare") (C_Has : ClsF K mg c "Has" ["field"]) (I_Has : IsF K c "Has") (m_isinstance : mg "isinstance" = none) {f : Addr} {fd : FuncData} (F : Fun K "is_about" "is_about" s_is_about f fd) : FnOk P w K mg base CX0 1 f fd ["condition", "field"] (sp_is_about K c) := by
  have sc := sc_is_about
  refine F.ok sc_is_about (fun vs H Q E h => ((w_is_about (c := c)) vs H Q E h).1) (fun cdv A outer s H vs Q E hr h => ⟨T_is_about K c, ?_, ((w_is_about (c := c)) vs H Q E h).2⟩)
  exact (pss_one (ps_ret (pe_and (pe_callB call_uIsiT (by rfl) m_isinstance (by decide +kernel) (pa_cons (pv 0) (pa_cons (pe_tup (pa_cons (z_cls C_Has I_Has (by rfl)) (pa_cons (z_cls C_Compare I_Compare (by rfl)) (pa_cons (z_cls C_OneOf I_OneOf (by rfl)) pa_nil)))) pa_nil))) (pe_one (pe_cmpR (op_uEq hr.units) (pe_fld (pv 0) rfl) (pv 1) (nomark _))))))
abbrev s_is_integer : Stmt := (topS 23)
theorem sc_is_integer : FnScope N_is_integer ["worth"] (defScope s_is_integer) := ⟨rfl, rfl, rfl, by decide +kernel, rfl, by decide +kernel, by decide +kernel⟩
theorem ok_is_integer (m_int : mg "int" = none) (m_isinstance : mg "isinstance" = none) (m_bool : mg "bool" = none) {f : Addr} {fd : FuncData} (F : Fun K "is_integer" "is_integer" s_is_integer f fd) : FnOk P w K mg base CX0 1 f fd ["worth"] (sp_is_integer K c) := by
  have sc := sc_is_integer
  refine F.ok sc_is_integer (fun vs H Q E h => ((w_is_integer (c := c)) vs H Q E h).1) (fun cdv A outer s H vs Q E hr h => ⟨T_is_integer K, ?_, ((w_is_integer (c := c)) vs H Q E h).2⟩)
  exact (pss_one (ps_ret (pe_and (pe_callB call_uIsi (by rfl) m_isinstance (by decide +kernel) (pa_cons (pv 0) (pa_cons (pe_bltn (by rfl) m_int (by decide +kernel) rfl) pa_nil))) (pe_one (pe_not (pe_callB call_uIsi (by rfl) m_isinstance (by decide +kernel) (pa_cons (pv 0) (pa_cons (pe_bltn (by rfl) m_bool (by decide +kernel) rfl) pa_nil))))))))
abbrev s_range_passes : Stmt := (topS 24)
theorem sc_range_passes : FnScope N_range_passes ["sign", "low", "high", "worth"] (defScope s_range_passes) := ⟨rfl, rfl, rfl, by decide +kernel, rfl, by decide +kernel, by decide +kernel⟩
theorem ok_range_passes {f : Addr} {fd : FuncData} (F : Fun K "range_passes" "range_passes" s_range_passes f fd) : FnOk P w K mg base CX0 1 f fd ["sign", "low", "high", "worth"] (sp_range_passes K c) := by
  have sc := sc_range_passes
  refine F.ok sc_range_passes (fun vs H Q E h => ((w_range_passes (c := c)) vs H Q E h).1) (fun cdv A outer s H vs Q E hr h => ⟨T_range_passes K, ?_, ((w_range_passes (c := c)) vs H Q E h).2⟩)
  exact (pss_cons (ps_if (pt_cmpR (op_uEq hr.units) (pv 0) pe_str (nomark _)) (pss_one (ps_ret (pe_chain op_uLe op_uLe (pv 1) (pv 3) (pv 2)))) pss_nil)
      (pss_cons (ps_if (pt_cmpR (op_uEq hr.units) (pv 0) pe_str (nomark _)) (pss_one (ps_ret (pe_not (pe_and (pe_cmpR (op_uEq hr.units) (pv 1) (pv 3) (nomark _)) (pe_one (pe_cmpR (op_uEq hr.units) (pv 3) (pv 2) (nomark _))))))) pss_nil)
      (pss_cons (ps_if (pt_cmpR (op_uEq hr.units) (pv 0) pe_str (nomark _)) (pss_one (ps_ret (pe_cmpR (op_uLt hr.units) (pv 1) (pv 3) (nomark _)))) pss_nil)
      (pss_cons (ps_if (pt_cmpR (op_uEq hr.units) (pv 0) pe_str (nomark _)) (pss_one (ps_ret (pe_cmpR op_uLe (pv 1) (pv 3) (nomark _)))) pss_nil)
      (pss_cons (ps_if (pt_cmpR (op_uEq hr.units) (pv 0) pe_str (nomark _)) (pss_one (ps_ret (pe_cmpR (op_uLt hr.units) (pv 3) (pv 2) (nomark _)))) pss_nil)
      (pss_one (ps_ret (pe_cmpR op_uLe (pv 3) (pv 2) (nomark _)))))))))
abbrev s_Range_outcomes_of_present : Stmt := (inClass (topS 28) 3)
theorem sc_Range_outcomes_of_present : FnScope N_Range_outcomes_of_present ["self", "condition"] (defScope s_Range_outcomes_of_present) := ⟨rfl, rfl, rfl, by decide +kernel, rfl, by decide +kernel, by decide +kernel⟩
theorem ok_Range_outcomes_of_present (C_OneOf : ClsF K mg c "OneOf" ["field", "choices"]) (I_OneOf : IsF K c "OneOf") (D_is_integer : Dfn P w K mg base 1 "is_integer" ["worth"] (sp_is_integer K c)) (D_range_passes : Dfn P w K mg base 1 "range_passes" ["sign", "low", "high", "worth"] (sp_range_passes K c)) (m_isinstance : mg "isinstance" = none) (m_len : mg "len" = none) (g_OPPOSITES : KD K w mg "OPPOSITES" [("=", .v (.str "!=")), ("!=", .v (.str "=")), ("<", .v (.str ">=")), ("<=", .v (.str ">")), (">", .v (.str "<=")), (">=", .v (.str "<"))]) {f : Addr} {fd : FuncData} (F : Fun K "outcomes_of_present" "Range.outcomes_of_present" s_Range_outcomes_of_present f fd) : FnOk P w K mg base CX0 2 f fd ["self", "condition"] (sp_Range_outcomes_of_present K c) := by
  have sc := sc_Range_outcomes_of_present
  refine F.ok sc_Range_outcomes_of_present (fun vs H Q E h => ((w_Range_outcomes_of_present (c := c)) vs H Q E h).1) (fun cdv A outer s H vs Q E hr h => ⟨T_Range_outcomes_of_present K c, ?_, ((w_Range_outcomes_of_present (c := c)) vs H Q E h).2⟩)
  exact (pss_cons (ps_if (pt_u (pe_callB call_uIsi (by rfl) m_isinstance (by decide +kernel) (pa_cons (pv 1) (pa_cons (z_cls C_OneOf I_OneOf (by rfl)) pa_nil)))) (pss_cons (by first | exact (ps_setLc (i := 2) (own := [("choice", 3)]) (g := (gName 3)) (tt := (tAnd (tTru K (tCal (sp_is_integer K c) (tCons (tVar 3) tNil))) (tTest (tChain uLe uLe (tFld K (tVar 0) "low") (tVar 3) (tFld K (tVar 0) "high"))))) rfl sc.nd rfl rfl (sw_true rfl rfl rfl (by decide +kernel)) (pi_sq (pe_fld (pv 1) rfl)) (blkOk_by (N := N_Range_outcomes_of_present) (sc := defScope s_Range_outcomes_of_present) (by decide +kernel)) (fun _ _ _ _ _ => (pg_name (i := 3) sc.nd rfl (by first | exact Or.inl rfl | exact Or.inr rfl))) (fun _ _ _ _ _ => (pts_one (PW.pt (pw_and (pt_u (z_call D_is_integer (hr.mono (by decide)) (by rfl) (pa_cons (pv 3) pa_nil))) (pw_and1 (pt_chain op_uLe op_uLe (pe_fld (pv 0) rfl) (pv 3) (pe_fld (pv 0) rfl))))))) (fun _ _ _ _ _ => (pv 3))) | exact (ps_set (i := 2) sc.nd rfl (Or.inr rfl) (pe_lc (own := [("choice", 3)]) (g := (gName 3)) (tt := (tAnd (tTru K (tCal (sp_is_integer K c) (tCons (tVar 3) tNil))) (tTest (tChain uLe uLe (tFld K (tVar 0) "low") (tVar 3) (tFld K (tVar 0) "high"))))) rfl sc.nd (pi_sq (pe_fld (pv 1) rfl)) (blkOk_by (N := N_Range_outcomes_of_present) (sc := defScope s_Range_outcomes_of_present) (by decide +kernel)) (fun _ _ _ _ _ => (pg_name (i := 3) sc.nd rfl (by first | exact Or.inl rfl | exact Or.inr rfl))) (fun _ _ _ _ _ => (pts_one (PW.pt (pw_and (pt_u (z_call D_is_integer (hr.mono (by decide)) (by rfl) (pa_cons (pv 3) pa_nil))) (pw_and1 (pt_chain op_uLe op_uLe (pe_fld (pv 0) rfl) (pv 3) (pe_fld (pv 0) rfl))))))) (fun _ _ _ _ _ => (pv 3)))))
      (pss_one (ps_ret (pe_tup (pa_cons (pe_cmpR op_uGt (pe_callB call_uLen (by rfl) m_len (by decide +kernel) (pa_cons (pv 2) pa_nil)) pe_int (nomark _)) (pa_cons pe_bl pa_nil)))))) pss_nil)
      (pss_cons (ps_if (pt_not (pt_u (z_call D_is_integer (hr.mono (by decide)) (by rfl) (pa_cons (pe_fld (pv 1) rfl) pa_nil)))) (pss_one (ps_ret (pe_tup (pa_cons pe_bl (pa_cons pe_bl pa_nil))))) pss_nil)
      (pss_cons (ps_set (i := 4) sc.nd rfl (by first | exact Or.inl rfl | exact Or.inr rfl) (z_call D_range_passes (hr.mono (by decide)) (by rfl) (pa_cons (pe_fld (pv 1) rfl) (pa_cons (pe_fld (pv 0) rfl) (pa_cons (pe_fld (pv 0) rfl) (pa_cons (pe_fld (pv 1) rfl) pa_nil))))))
      (pss_one (ps_ret (pe_tup (pa_cons (pv 4) (pa_cons (z_call D_range_passes (hr.mono (by decide)) (by rfl) (pa_cons (z_kix g_OPPOSITES (pe_fld (pv 1) rfl) (by rfl)) (pa_cons (pe_fld (pv 0) rfl) (pa_cons (pe_fld (pv 0) rfl) (pa_cons (pe_fld (pv 1) rfl) pa_nil))))) pa_nil))))))))
abbrev s_same_value : Stmt := (topS 4)
theorem sc_same_value : FnScope N_same_value ["a", "b"] (defScope s_same_value) := ⟨rfl, rfl, rfl, by decide +kernel, rfl, by decide +kernel, by decide +kernel⟩
theorem ok_same_value (m_bool : mg "bool" = none) (m_isinstance : mg "isinstance" = none) (m_str : mg "str" = none) {f : Addr} {fd : FuncData} (F : Fun K "same_value" "same_value" s_same_value f fd) : FnOk P w K mg base CX0 1 f fd ["a", "b"] (sp_same_value K c) := by
  have sc := sc_same_value
  refine F.ok sc_same_value (fun vs H Q E h => ((w_same_value (c := c)) vs H Q E h).1) (fun cdv A outer s H vs Q E hr h => ⟨T_same_value K, ?_, ((w_same_value (c := c)) vs H Q E h).2⟩)
  exact (pss_one (ps_ret (pe_and (pe_cmpR (op_uEq hr.units) (pe_callB call_uIsi (by rfl) m_isinstance (by decide +kernel) (pa_cons (pv 0) (pa_cons (pe_bltn (by rfl) m_bool (by decide +kernel) rfl) pa_nil))) (pe_callB call_uIsi (by rfl) m_isinstance (by decide +kernel) (pa_cons (pv 1) (pa_cons (pe_bltn (by rfl) m_bool (by decide +kernel) rfl) pa_nil))) (nomark _)) (pe_and (pe_cmpR (op_uEq hr.units) (pe_callB call_uIsi (by rfl) m_isinstance (by decide +kernel) (pa_cons (pv 0) (pa_cons (pe_bltn (by rfl) m_str (by decide +kernel) rfl) pa_nil))) (pe_callB call_uIsi (by rfl) m_isinstance (by decide +kernel) (pa_cons (pv 1) (pa_cons (pe_bltn (by rfl) m_str (by decide +kernel) rfl) pa_nil))) (nomark _)) (pe_one (pe_cmpR (op_uEq hr.units) (pv 0) (pv 1) (nomark _)))))))
abbrev s_is_one_of : Stmt := (topS 22)
theorem sc_is_one_of : FnScope N_is_one_of ["worth", "choices"] (defScope s_is_one_of) := ⟨rfl, rfl, rfl, by decide +kernel, rfl, by decide +kernel, by decide +kernel⟩
theorem ok_is_one_of (D_same_value : Dfn P w K mg base 1 "same_value" ["a", "b"] (sp_same_value K c)) {f : Addr} {fd : FuncData} (F : Fun K "is_one_of" "is_one_of" s_is_one_of f fd) : FnOk P w K mg base CX0 2 f fd ["worth", "choices"] (sp_is_one_of K c) := by
  have sc := sc_is_one_of
  refine F.ok sc_is_one_of (fun vs H Q E h => ((w_is_one_of (c := c)) vs H Q E h).1) (fun cdv A outer s H vs Q E hr h => ⟨T_is_one_of K c, ?_, ((w_is_one_of (c := c)) vs H Q E h).2⟩)
  exact (pss_cons (ps_for PassesOwn.never rfl (pi_sq (pv 1)) (pg_name (i := 2) sc.nd rfl (by first | exact Or.inl rfl | exact Or.inr rfl)) (pss_one (ps_if (pt_u (z_call D_same_value (hr.mono (by decide)) (by rfl) (pa_cons (pv 0) (pa_cons (pv 2) pa_nil)))) (pss_one (ps_ret pe_bl)) pss_nil)))
      (pss_one (ps_ret pe_bl)))
abbrev s_same_kind : Stmt := (topS 21)
theorem sc_same_kind : FnScope N_same_kind ["a", "b"] (defScope s_same_kind) := ⟨rfl, rfl, rfl, by decide +kernel, rfl, by decide +kernel, by decide +kernel⟩
theorem ok_same_kind (m_bool : mg "bool" = none) (m_isinstance : mg "isinstance" = none) (m_str : mg "str" = none) {f : Addr} {fd : FuncData} (F : Fun K "same_kind" "same_kind" s_same_kind f fd) : FnOk P w K mg base CX0 1 f fd ["a", "b"] (sp_same_kind K c) := by
  have sc := sc_same_kind
  refine F.ok sc_same_kind (fun vs H Q E h => ((w_same_kind (c := c)) vs H Q E h).1) (fun cdv A outer s H vs Q E hr h => ⟨T_same_kind K, ?_, ((w_same_kind (c := c)) vs H Q E h).2⟩)
  exact (pss_one (ps_ret (pe_and (pe_cmpR (op_uEq hr.units) (pe_callB call_uIsi (by rfl) m_isinstance (by decide +kernel) (pa_cons (pv 0) (pa_cons (pe_bltn (by rfl) m_bool (by decide +kernel) rfl) pa_nil))) (pe_callB call_uIsi (by rfl) m_isinstance (by decide +kernel) (pa_cons (pv 1) (pa_cons (pe_bltn (by rfl) m_bool (by decide +kernel) rfl) pa_nil))) (nomark _)) (pe_one (pe_cmpR (op_uEq hr.units) (pe_callB call_uIsi (by rfl) m_isinstance (by decide +kernel) (pa_cons (pv 0) (pa_cons (pe_bltn (by rfl) m_str (by decide +kernel) rfl) pa_nil))) (pe_callB call_uIsi (by rfl) m_isinstance (by decide +kernel) (pa_cons (pv 1) (pa_cons (pe_bltn (by rfl) m_str (by decide +kernel) rfl) pa_nil))) (nomark _))))))
abbrev s_compare : Stmt := (topS 6)
theorem sc_compare : FnScope N_compare ["sign", "a", "b"] (defScope s_compare) := ⟨rfl, rfl, rfl, by decide +kernel, rfl, by decide +kernel, by decide +kernel⟩
theorem ok_compare {f : Addr} {fd : FuncData} (F : Fun K "compare" "compare" s_compare f fd) : FnOk P w K mg base CX0 1 f fd ["sign", "a", "b"] (sp_compare K c) := by
  have sc := sc_compare
  refine F.ok sc_compare (fun vs H Q E h => ((w_compare (c := c)) vs H Q E h).1) (fun cdv A outer s H vs Q E hr h => ⟨T_compare K, ?_, ((w_compare (c := c)) vs H Q E h).2⟩)
  exact (pss_cons (ps_if (pt_cmpR (op_uEq hr.units) (pv 0) pe_str (nomark _)) (pss_one (ps_ret (pe_cmpR (op_uEq hr.units) (pv 1) (pv 2) (nomark _)))) pss_nil)
      (pss_cons (ps_if (pt_cmpR (op_uEq hr.units) (pv 0) pe_str (nomark _)) (pss_one (ps_ret (pe_cmpR (op_uNe hr.units) (pv 1) (pv 2) (nomark _)))) pss_nil)
      (pss_cons (ps_if (pt_cmpR (op_uEq hr.units) (pv 0) pe_str (nomark _)) (pss_one (ps_ret (pe_cmpR (op_uLtB hr.units) (pv 1) (pv 2) (nomark _)))) pss_nil)
      (pss_cons (ps_if (pt_cmpR (op_uEq hr.units) (pv 0) pe_str (nomark _)) (pss_one (ps_ret (pe_cmpR op_uLeB (pv 1) (pv 2) (nomark _)))) pss_nil)
      (pss_cons (ps_if (pt_cmpR (op_uEq hr.units) (pv 0) pe_str (nomark _)) (pss_one (ps_ret (pe_cmpR (op_uLtB hr.units) (pv 2) (pv 1) (nomark _)))) pss_nil)
      (pss_one (ps_ret (pe_cmpR op_uLeB (pv 2) (pv 1) (nomark _)))))))))
abbrev s_satisfies : Stmt := (topS 20)
theorem sc_satisfies : FnScope N_satisfies ["condition", "worth"] (defScope s_satisfies) := ⟨rfl, rfl, rfl, by decide +kernel, rfl, by decide +kernel, by decide +kernel⟩
theorem ok_satisfies (C_OneOf : ClsF K mg c "OneOf" ["field", "choices"]) (I_OneOf : IsF K c "OneOf") (D_is_one_of : Dfn P w K mg base 2 "is_one_of" ["worth", "choices"] (sp_is_one_of K c)) (D_same_kind : Dfn P w K mg base 1 "same_kind" ["a", "b"] (sp_same_kind K c)) (D_compare : Dfn P w K mg base 1 "compare" ["sign", "a", "b"] (sp_compare K c)) (m_isinstance : mg "isinstance" = none) {f : Addr} {fd : FuncData} (F : Fun K "satisfies" "satisfies" s_satisfies f fd) : FnOk P w K mg base CX0 3 f fd ["condition", "worth"] (sp_satisfies K c) := by
  have sc := sc_satisfies
  refine F.ok sc_satisfies (fun vs H Q E h => ((w_satisfies (c := c)) vs H Q E h).1) (fun cdv A outer s H vs Q E hr h => ⟨T_satisfies K c, ?_, ((w_satisfies (c := c)) vs H Q E h).2⟩)
  exact (pss_cons (ps_if (pt_u (pe_callB call_uIsi (by rfl) m_isinstance (by decide +kernel) (pa_cons (pv 0) (pa_cons (z_cls C_OneOf I_OneOf (by rfl)) pa_nil)))) (pss_one (ps_ret (z_call D_is_one_of (hr.mono (by decide)) (by rfl) (pa_cons (pv 1) (pa_cons (pe_fld (pv 0) rfl) pa_nil))))) pss_nil)
      (pss_cons (ps_if (pt_not (pt_u (z_call D_same_kind (hr.mono (by decide)) (by rfl) (pa_cons (pv 1) (pa_cons (pe_fld (pv 0) rfl) pa_nil))))) (pss_one (ps_ret (pe_cmpR (op_uEq hr.units) (pe_fld (pv 0) rfl) pe_str (nomark _)))) pss_nil)
      (pss_one (ps_ret (z_call D_compare (hr.mono (by decide)) (by rfl) (pa_cons (pe_fld (pv 0) rfl) (pa_cons (pv 1) (pa_cons (pe_fld (pv 0) rfl) pa_nil))))))))
abbrev s_Values_outcomes_of_present : Stmt := (inClass (topS 29) 3)
theorem sc_Values_outcomes_of_present : FnScope N_Values_outcomes_of_present ["self", "condition"] (defScope s_Values_outcomes_of_present) := ⟨rfl, rfl, rfl, by decide +kernel, rfl, by decide +kernel, by decide +kernel⟩
theorem ok_Values_outcomes_of_present (D_satisfies : Dfn P w K mg base 3 "satisfies" ["condition", "worth"] (sp_satisfies K c)) (m_len : mg "len" = none) {f : Addr} {fd : FuncData} (F : Fun K "outcomes_of_present" "Values.outcomes_of_present" s_Values_outcomes_of_present f fd) : FnOk P w K mg base CX0 4 f fd ["self", "condition"] (sp_Values_outcomes_of_present K c) := by
  have sc := sc_Values_outcomes_of_present
  refine F.ok sc_Values_outcomes_of_present (fun vs H Q E h => ((w_Values_outcomes_of_present (c := c)) vs H Q E h).1) (fun cdv A outer s H vs Q E hr h => ⟨T_Values_outcomes_of_present K c, ?_, ((w_Values_outcomes_of_present (c := c)) vs H Q E h).2⟩)
  exact (pss_cons (by first | exact (ps_setLc (i := 2) (own := [("choice", 3)]) (g := (gName 3)) (tt := (tTru K (tCal (sp_satisfies K c) (tCons (tVar 1) (tCons (tVar 3) tNil))))) rfl sc.nd rfl rfl (sw_true rfl rfl rfl (by decide +kernel)) (pi_sq (pe_fld (pv 0) rfl)) (blkOk_by (N := N_Values_outcomes_of_present) (sc := defScope s_Values_outcomes_of_present) (by decide +kernel)) (fun _ _ _ _ _ => (pg_name (i := 3) sc.nd rfl (by first | exact Or.inl rfl | exact Or.inr rfl))) (fun _ _ _ _ _ => (pts_one (pt_u (z_call D_satisfies (hr.mono (by decide)) (by rfl) (pa_cons (pv 1) (pa_cons (pv 3) pa_nil)))))) (fun _ _ _ _ _ => (pv 3))) | exact (ps_set (i := 2) sc.nd rfl (Or.inr rfl) (pe_lc (own := [("choice", 3)]) (g := (gName 3)) (tt := (tTru K (tCal (sp_satisfies K c) (tCons (tVar 1) (tCons (tVar 3) tNil))))) rfl sc.nd (pi_sq (pe_fld (pv 0) rfl)) (blkOk_by (N := N_Values_outcomes_of_present) (sc := defScope s_Values_outcomes_of_present) (by decide +kernel)) (fun _ _ _ _ _ => (pg_name (i := 3) sc.nd rfl (by first | exact Or.inl rfl | exact Or.inr rfl))) (fun _ _ _ _ _ => (pts_one (pt_u (z_call D_satisfies (hr.mono (by decide)) (by rfl) (pa_cons (pv 1) (pa_cons (pv 3) pa_nil)))))) (fun _ _ _ _ _ => (pv 3)))))
      (pss_one (ps_ret (pe_tup (pa_cons (pe_cmpR op_uGt (pe_callB call_uLen (by rfl) m_len (by decide +kernel) (pa_cons (pv 2) pa_nil)) pe_int (nomark _)) (pa_cons (pe_cmpR (op_uLt hr.units) (pe_callB call_uLen (by rfl) m_len (by decide +kernel) (pa_cons (pv 2) pa_nil)) (pe_callB call_uLen (by rfl) m_len (by decide +kernel) (pa_cons (pe_fld (pv 0) rfl) pa_nil)) (nomark _)) pa_nil))))))
abbrev s_FieldFact_field_outcomes : Stmt := (inClass (topS 27) 2)
theorem sc_FieldFact_field_outcomes : FnScope N_FieldFact_field_outcomes ["self", "condition"] (defScope s_FieldFact_field_outcomes) := ⟨rfl, rfl, rfl, by decide +kernel, rfl, by decide +kernel, by decide +kernel⟩
theorem ok_FieldFact_field_outcomes (C_Has : ClsF K mg c "Has" ["field"]) (I_Has : IsF K c "Has") (C_Range : ClsF K mg c "Range" ["field", "lack", "low", "high"]) (C_Values : ClsF K mg c "Values" ["field", "lack", "choices"]) (D_is_about : Dfn P w K mg base 1 "is_about" ["condition", "field"] (sp_is_about K c)) (M_Range_outcomes_of_present : Mth P w K mg base 2 (c.cls "Range") "outcomes_of_present" ["self", "condition"] (sp_Range_outcomes_of_present K c)) (M_Values_outcomes_of_present : Mth P w K mg base 4 (c.cls "Values") "outcomes_of_present" ["self", "condition"] (sp_Values_outcomes_of_present K c)) (m_isinstance : mg "isinstance" = none) {f : Addr} {fd : FuncData} (F : Fun K "field_outcomes" "FieldFact.field_outcomes" s_FieldFact_field_outcomes f fd) : FnOk P w K mg base CX0 5 f fd ["self", "condition"] (sp_FieldFact_field_outcomes K c) := by
  have sc := sc_FieldFact_field_outcomes
  refine F.ok sc_FieldFact_field_outcomes (fun vs H Q E h => ((w_FieldFact_field_outcomes (c := c)) vs H Q E h).1) (fun cdv A outer s H vs Q E hr h => ⟨T_FieldFact_field_outcomes K c, ?_, ((w_FieldFact_field_outcomes (c := c)) vs H Q E h).2⟩)
  exact (pss_cons (ps_if (pt_not (pt_u (z_call D_is_about (hr.mono (by decide)) (by rfl) (pa_cons (pv 1) (pa_cons (pe_fld (pv 0) rfl) pa_nil))))) (pss_one (ps_ret pe_non)) pss_nil)
      (pss_cons (ps_if (pt_cmpR (op_uEq hr.units) (pe_fld (pv 0) rfl) pe_str (nomark _)) (pss_one (ps_ret (pe_tup (pa_cons pe_bl (pa_cons pe_bl pa_nil))))) pss_nil)
      (pss_cons (ps_if (pt_u (pe_callB call_uIsi (by rfl) m_isinstance (by decide +kernel) (pa_cons (pv 1) (pa_cons (z_cls C_Has I_Has (by rfl)) pa_nil)))) (pss_one (ps_ret (pe_tup (pa_cons pe_bl (pa_cons (pe_cmpR (op_uEq hr.units) (pe_fld (pv 0) rfl) pe_str (nomark _)) pa_nil))))) pss_nil)
      (pss_cons (ps_asg (pe_any (z_meth (pv 0) C_Range M_Range_outcomes_of_present (hr.mono (by decide)) (pa_cons (pv 1) pa_nil)) (z_meth (pv 0) C_Values M_Values_outcomes_of_present (hr.mono (by decide)) (pa_cons (pv 1) pa_nil))) (pg_tup rfl (pgs_cons (pg_name (i := 2) sc.nd rfl (by first | exact Or.inl rfl | exact Or.inr rfl)) (pgs_cons (pg_name (i := 3) sc.nd rfl (by first | exact Or.inl rfl | exact Or.inr rfl)) pgs_nil))))
      (pss_one (ps_ret (pe_tup (pa_cons (pv 2) (pa_cons (pe_or (pv 3) (pe_one (pe_cmpR (op_uEq hr.units) (pe_fld (pv 0) rfl) pe_str (nomark _)))) pa_nil)))))))))
abbrev s_Range_outcomes : Stmt := (inClass (topS 28) 2)
theorem sc_Range_outcomes : FnScope N_Range_outcomes ["self", "condition"] (defScope s_Range_outcomes) := ⟨rfl, rfl, rfl, by decide +kernel, rfl, by decide +kernel, by decide +kernel⟩
theorem ok_Range_outcomes (C_Range : ClsF K mg c "Range" ["field", "lack", "low", "high"]) (C_Values : ClsF K mg c "Values" ["field", "lack", "choices"]) (M_FieldFact_field_outcomes_at_Range : Mth P w K mg base 5 (c.cls "Range") "field_outcomes" ["self", "condition"] (sp_FieldFact_field_outcomes K c)) (M_FieldFact_field_outcomes_at_Values : Mth P w K mg base 5 (c.cls "Values") "field_outcomes" ["self", "condition"] (sp_FieldFact_field_outcomes K c)) {f : Addr} {fd : FuncData} (F : Fun K "outcomes" "Range.outcomes" s_Range_outcomes f fd) : FnOk P w K mg base CX0 6 f fd ["self", "condition"] (sp_Range_outcomes K c) := by
  have sc := sc_Range_outcomes
  refine F.ok sc_Range_outcomes (fun vs H Q E h => ((w_Range_outcomes (c := c)) vs H Q E h).1) (fun cdv A outer s H vs Q E hr h => ⟨T_Range_outcomes K c, ?_, ((w_Range_outcomes (c := c)) vs H Q E h).2⟩)
  exact (pss_one (ps_ret (pe_any (z_meth (pv 0) C_Range M_FieldFact_field_outcomes_at_Range (hr.mono (by decide)) (pa_cons (pv 1) pa_nil)) (z_meth (pv 0) C_Values M_FieldFact_field_outcomes_at_Values (hr.mono (by decide)) (pa_cons (pv 1) pa_nil)))))
abbrev s_Values_outcomes : Stmt := (inClass (topS 29) 2)
theorem sc_Values_outcomes : FnScope N_Values_outcomes ["self", "condition"] (defScope s_Values_outcomes) := ⟨rfl, rfl, rfl, by decide +kernel, rfl, by decide +kernel, by decide +kernel⟩
theorem ok_Values_outcomes (C_Range : ClsF K mg c "Range" ["field", "lack", "low", "high"]) (C_Values : ClsF K mg c "Values" ["field", "lack", "choices"]) (M_FieldFact_field_outcomes_at_Range : Mth P w K mg base 5 (c.cls "Range") "field_outcomes" ["self", "condition"] (sp_FieldFact_field_outcomes K c)) (M_FieldFact_field_outcomes_at_Values : Mth P w K mg base 5 (c.cls "Values") "field_outcomes" ["self", "condition"] (sp_FieldFact_field_outcomes K c)) {f : Addr} {fd : FuncData} (F : Fun K "outcomes" "Values.outcomes" s_Values_outcomes f fd) : FnOk P w K mg base CX0 6 f fd ["self", "condition"] (sp_Values_outcomes K c) := by
  have sc := sc_Values_outcomes
  refine F.ok sc_Values_outcomes (fun vs H Q E h => ((w_Values_outcomes (c := c)) vs H Q E h).1) (fun cdv A outer s H vs Q E hr h => ⟨T_Values_outcomes K c, ?_, ((w_Values_outcomes (c := c)) vs H Q E h).2⟩)
  exact (pss_one (ps_ret (pe_any (z_meth (pv 0) C_Range M_FieldFact_field_outcomes_at_Range (hr.mono (by decide)) (pa_cons (pv 1) pa_nil)) (z_meth (pv 0) C_Values M_FieldFact_field_outcomes_at_Values (hr.mono (by decide)) (pa_cons (pv 1) pa_nil)))))
abbrev s_law_compares : Stmt := (topS 44)
theorem sc_law_compares : FnScope N_law_compares ["_law_sign", "_law_a", "_law_b"] (defScope s_law_compares) := ⟨rfl, rfl, rfl, by decide +kernel, rfl, by decide +kernel, by decide +kernel⟩
theorem ok_law_compares {f : Addr} {fd : FuncData} (F : Fun K "_law_compares" "_law_compares" s_law_compares f fd) : FnOk P w K mg base CX0 1 f fd ["_law_sign", "_law_a", "_law_b"] (sp_law_compares K c) := by
  have sc := sc_law_compares
  refine F.ok sc_law_compares (fun vs H Q E h => ((w_law_compares (c := c)) vs H Q E h).1) (fun cdv A outer s H vs Q E hr h => ⟨T_law_compares K, ?_, ((w_law_compares (c := c)) vs H Q E h).2⟩)
  exact (pss_cons (ps_if (pt_cmpR (op_uEq hr.units) (pv 0) pe_str (nomark _)) (pss_one (ps_ret (pe_cmpR (op_uEq hr.units) (pv 1) (pv 2) (nomark _)))) pss_nil)
      (pss_cons (ps_if (pt_cmpR (op_uEq hr.units) (pv 0) pe_str (nomark _)) (pss_one (ps_ret (pe_cmpR (op_uNe hr.units) (pv 1) (pv 2) (nomark _)))) pss_nil)
      (pss_cons (ps_if (pt_cmpR (op_uEq hr.units) (pv 0) pe_str (nomark _)) (pss_one (ps_ret (pe_cmpR (op_uLtB hr.units) (pv 1) (pv 2) (nomark _)))) pss_nil)
      (pss_cons (ps_if (pt_cmpR (op_uEq hr.units) (pv 0) pe_str (nomark _)) (pss_one (ps_ret (pe_cmpR op_uLeB (pv 1) (pv 2) (nomark _)))) pss_nil)
      (pss_cons (ps_if (pt_cmpR (op_uEq hr.units) (pv 0) pe_str (nomark _)) (pss_one (ps_ret (pe_cmpR (op_uLtB hr.units) (pv 2) (pv 1) (nomark _)))) pss_nil)
      (pss_one (ps_ret (pe_cmpR op_uLeB (pv 2) (pv 1) (nomark _)))))))))
abbrev s_law_worth_passes : Stmt := (topS 45)
theorem sc_law_worth_passes : FnScope N_law_worth_passes ["_law_tree", "_law_worth"] (defScope s_law_worth_passes) := ⟨rfl, rfl, rfl, by decide +kernel, rfl, by decide +kernel, by decide +kernel⟩
theorem ok_law_worth_passes (D_law_compares : Dfn P w K mg base 1 "_law_compares" ["_law_sign", "_law_a", "_law_b"] (sp_law_compares K c)) {f : Addr} {fd : FuncData} (F : Fun K "_law_worth_passes" "_law_worth_passes" s_law_worth_passes f fd) : FnOk P w K mg base CX0 2 f fd ["_law_tree", "_law_worth"] (sp_law_worth_passes K c) := by
  have sc := sc_law_worth_passes
  refine F.ok sc_law_worth_passes (fun vs H Q E h => ((w_law_worth_passes (c := c)) vs H Q E h).1) (fun cdv A outer s H vs Q E hr h => ⟨T_law_worth_passes K c, ?_, ((w_law_worth_passes (c := c)) vs H Q E h).2⟩)
  exact (pss_cons (ps_if (pt_cmpR (op_uEq hr.units) (pe_ix ix_uIx (pv 0) pe_int (fun _ _ => rfl)) pe_str (nomark _)) (pss_one (ps_ret (pe_cmpR op_uIn (pv 1) (pe_ix ix_uIx (pv 0) pe_int (fun _ _ => rfl)) (by rfl)))) pss_nil)
      (pss_one (ps_ret (z_call D_law_compares (hr.mono (by decide)) (by rfl) (pa_cons (pe_ix ix_uIx (pv 0) pe_int (fun _ _ => rfl)) (pa_cons (pv 1) (pa_cons (pe_ix ix_uIx (pv 0) pe_int (fun _ _ => rfl)) pa_nil)))))))
abbrev s_law_outcomes : Stmt := (topS 46)
theorem sc_law_outcomes : FnScope N_law_outcomes ["_law_fact", "_law_tree"] (defScope s_law_outcomes) := ⟨rfl, rfl, rfl, by decide +kernel, rfl, by decide +kernel, by decide +kernel⟩
theorem ok_law_outcomes (D_law_worth_passes : Dfn P w K mg base 2 "_law_worth_passes" ["_law_tree", "_law_worth"] (sp_law_worth_passes K c)) (m_len : mg "len" = none) (m_range : mg "range" = none) (m_list : mg "list" = none) {f : Addr} {fd : FuncData} (F : Fun K "_law_outcomes" "_law_outcomes" s_law_outcomes f fd) : FnOk P w K mg base CX0 3 f fd ["_law_fact", "_law_tree"] (sp_law_outcomes K c) := by
  have sc := sc_law_outcomes
  refine F.ok sc_law_outcomes (fun vs H Q E h => ((w_law_outcomes (c := c)) vs H Q E h).1) (fun cdv A outer s H vs Q E hr h => ⟨T_law_outcomes K c, ?_, ((w_law_outcomes (c := c)) vs H Q E h).2⟩)
  exact (pss_cons (ps_if (pt_cmpR (op_uNe hr.units) (pe_ix ix_uIx (pv 1) pe_int (fun _ _ => rfl)) (pe_ix ix_uIx (pv 0) pe_int (fun _ _ => rfl)) (nomark _)) (pss_one (ps_ret pe_non)) pss_nil)
      (pss_cons (ps_set (i := 2) sc.nd rfl (by first | exact Or.inl rfl | exact Or.inr rfl) (pe_ix ix_uIx (pv 0) (pe_op op_uSub (pe_callB call_uLen (by rfl) m_len (by decide +kernel) (pa_cons (pv 0) pa_nil)) pe_int) (fun _ _ => rfl)))
      (pss_cons (ps_if (pt_cmpR (op_uEq hr.units) (pv 2) pe_str (nomark _)) (pss_one (ps_ret (pe_tup (pa_cons pe_bl (pa_cons pe_bl pa_nil))))) pss_nil)
      (pss_cons (ps_if (pt_cmpR (op_uEq hr.units) (pe_ix ix_uIx (pv 1) pe_int (fun _ _ => rfl)) pe_str (nomark _)) (pss_one (ps_ret (pe_tup (pa_cons pe_bl (pa_cons (pe_cmpR (op_uEq hr.units) (pv 2) pe_str (nomark _)) pa_nil))))) pss_nil)
      (pss_cons (ps_set (i := 3) sc.nd rfl (by first | exact Or.inl rfl | exact Or.inr rfl) (pe_ix ix_uIx (pv 0) pe_int (fun _ _ => rfl)))
      (pss_cut (ps_if (pt_cmpR (op_uEq hr.units) (pe_ix ix_uIx (pv 0) pe_int (fun _ _ => rfl)) pe_str (nomark _)) (pss_one (ps_set (i := 3) sc.nd rfl (by first | exact Or.inl rfl | exact Or.inr rfl) (pe_listRg rfl (by rfl) m_list (prg_2 (by rfl) m_range (pe_ix ix_uIx (pv 0) pe_int (fun _ _ => rfl)) (pe_op op_uAdd (pe_ix ix_uIx (pv 0) pe_int (fun _ _ => rfl)) pe_int))))) pss_nil)
      (pss_cons (by first | exact (ps_setLc (i := 4) (own := [("_law_worth", 5)]) (g := (gName 5)) (tt := (tTru K (tCal (sp_law_worth_passes K c) (tCons (tVar 1) (tCons (tVar 5) tNil))))) rfl sc.nd rfl rfl (sw_true rfl rfl rfl (by decide +kernel)) (pi_sq (pv 3)) (blkOk_by (N := N_law_outcomes) (sc := defScope s_law_outcomes) (by decide +kernel)) (fun _ _ _ _ _ => (pg_name (i := 5) sc.nd rfl (by first | exact Or.inl rfl | exact Or.inr rfl))) (fun _ _ _ _ _ => (pts_one (pt_u (z_call D_law_worth_passes (hr.mono (by decide)) (by rfl) (pa_cons (pv 1) (pa_cons (pv 5) pa_nil)))))) (fun _ _ _ _ _ => (pv 5))) | exact (ps_set (i := 4) sc.nd rfl (Or.inr rfl) (pe_lc (own := [("_law_worth", 5)]) (g := (gName 5)) (tt := (tTru K (tCal (sp_law_worth_passes K c) (tCons (tVar 1) (tCons (tVar 5) tNil))))) rfl sc.nd (pi_sq (pv 3)) (blkOk_by (N := N_law_outcomes) (sc := defScope s_law_outcomes) (by decide +kernel)) (fun _ _ _ _ _ => (pg_name (i := 5) sc.nd rfl (by first | exact Or.inl rfl | exact Or.inr rfl))) (fun _ _ _ _ _ => (pts_one (pt_u (z_call D_law_worth_passes (hr.mono (by decide)) (by rfl) (pa_cons (pv 1) (pa_cons (pv 5) pa_nil)))))) (fun _ _ _ _ _ => (pv 5)))))
      (pss_cons (by first | exact (ps_setLc (i := 6) (own := [("_law_worth", 5)]) (g := (gName 5)) (tt := (tNot (tTru K (tCal (sp_law_worth_passes K c) (tCons (tVar 1) (tCons (tVar 5) tNil)))))) rfl sc.nd rfl rfl (sw_true rfl rfl rfl (by decide +kernel)) (pi_sq (pv 3)) (blkOk_by (N := N_law_outcomes) (sc := defScope s_law_outcomes) (by decide +kernel)) (fun _ _ _ _ _ => (pg_name (i := 5) sc.nd rfl (by first | exact Or.inl rfl | exact Or.inr rfl))) (fun _ _ _ _ _ => (pts_one (pt_not (pt_u (z_call D_law_worth_passes (hr.mono (by decide)) (by rfl) (pa_cons (pv 1) (pa_cons (pv 5) pa_nil))))))) (fun _ _ _ _ _ => (pv 5))) | exact (ps_set (i := 6) sc.nd rfl (Or.inr rfl) (pe_lc (own := [("_law_worth", 5)]) (g := (gName 5)) (tt := (tNot (tTru K (tCal (sp_law_worth_passes K c) (tCons (tVar 1) (tCons (tVar 5) tNil)))))) rfl sc.nd (pi_sq (pv 3)) (blkOk_by (N := N_law_outcomes) (sc := defScope s_law_outcomes) (by decide +kernel)) (fun _ _ _ _ _ => (pg_name (i := 5) sc.nd rfl (by first | exact Or.inl rfl | exact Or.inr rfl))) (fun _ _ _ _ _ => (pts_one (pt_not (pt_u (z_call D_law_worth_passes (hr.mono (by decide)) (by rfl) (pa_cons (pv 1) (pa_cons (pv 5) pa_nil))))))) (fun _ _ _ _ _ => (pv 5)))))
      (pss_cons (ps_set (i := 7) sc.nd rfl (by first | exact Or.inl rfl | exact Or.inr rfl) (pe_or (pe_cmpR op_uGt (pe_callB call_uLen (by rfl) m_len (by decide +kernel) (pa_cons (pv 6) pa_nil)) pe_int (nomark _)) (pe_or (pe_cmpR (op_uEq hr.units) (pv 2) pe_str (nomark _)) (pe_one (pe_and (pe_cmpR (op_uEq hr.units) (pe_ix ix_uIx (pv 0) pe_int (fun _ _ => rfl)) pe_str (nomark _)) (pe_one (pe_cmpR (op_uEq hr.units) (pe_ix ix_uIx (pv 1) pe_int (fun _ _ => rfl)) pe_str (nomark _))))))))
      (pss_one (ps_ret (pe_tup (pa_cons (pe_cmpR op_uGt (pe_callB call_uLen (by rfl) m_len (by decide +kernel) (pa_cons (pv 4) pa_nil)) pe_int (nomark _)) (pa_cons (pv 7) pa_nil))))))))))))))
abbrev s_law : Stmt := (topS 49)
theorem sc_law : FnScope N_law ["_law_script"] (defScope s_law) := ⟨rfl, rfl, rfl, by decide +kernel, rfl, by decide +kernel, by decide +kernel⟩
theorem ok_law (C_Range : ClsF K mg c "Range" ["field", "lack", "low", "high"]) (C_Values : ClsF K mg c "Values" ["field", "lack", "choices"]) (D_law_field_fact : Dfn P w K mg base 3 "_law_field_fact" ["_law_state"] (sp_law_field_fact K c)) (D_law_leaf : Dfn P w K mg base 3 "_law_leaf" ["_law_state"] (sp_law_leaf K c)) (D_law_next : Dfn P w K mg base 2 "_law_next" ["_law_state", "_law_many"] (sp_law_next K)) (D_law_made : Dfn P w K mg base 4 "_law_made" ["_law_fact"] (sp_law_made K c)) (D_law_built : Dfn P w K mg base 3 "_law_built" ["_law_tree"] (sp_law_built K c)) (M_Range_outcomes : Mth P w K mg base 6 (c.cls "Range") "outcomes" ["self", "condition"] (sp_Range_outcomes K c)) (M_Values_outcomes : Mth P w K mg base 6 (c.cls "Values") "outcomes" ["self", "condition"] (sp_Values_outcomes K c)) (D_law_outcomes : Dfn P w K mg base 3 "_law_outcomes" ["_law_fact", "_law_tree"] (sp_law_outcomes K c)) (m_list : mg "list" = none) (m_range : mg "range" = none) (m_tuple : mg "tuple" = none) (m_isinstance : mg "isinstance" = none) (m_bool : mg "bool" = none) {f : Addr} {fd : FuncData} (F : Fun K "law" "law" s_law f fd) : FnOk P w K mg base CX0 7 f fd ["_law_script"] (sp_law K) := by
  have sc := sc_law
  refine F.ok sc_law (fun vs H Q E h => ((w_law (c := c)) vs H Q E h).1) (fun cdv A outer s H vs Q E hr h => ⟨T_law K c, ?_, ((w_law (c := c)) vs H Q E h).2⟩)
  exact (pss_cons (ps_set (i := 1) sc.nd rfl (by first | exact Or.inl rfl | exact Or.inr rfl) (pe_lst (pa_cons (pe_callTy call_uList (by rfl) m_list (by decide +kernel) (pa_cons (pv 0) pa_nil)) (pa_cons pe_int (pa_cons pe_int pa_nil)))))
      (pss_cons (ps_for PassesOwn.never rfl (pi_range1 (by rfl) m_range (pa_cons pe_int pa_nil)) (pg_name (i := 2) sc.nd rfl (by first | exact Or.inl rfl | exact Or.inr rfl)) (pss_cons (ps_set (i := 3) sc.nd rfl (by first | exact Or.inl rfl | exact Or.inr rfl) (z_call D_law_field_fact (hr.mono (by decide)) (by rfl) (pa_cons (pv 1) pa_nil)))
      (pss_cons (ps_set (i := 4) sc.nd rfl (by first | exact Or.inl rfl | exact Or.inr rfl) (z_call D_law_leaf (hr.mono (by decide)) (by rfl) (pa_cons (pv 1) pa_nil)))
      (pss_cut (ps_if (PW.pt (pw_and (pt_cmpR op_uGt (z_call D_law_next (hr.mono (by decide)) (by rfl) (pa_cons (pv 1) (pa_cons pe_int pa_nil))) pe_int (nomark _)) (pw_and1 (pt_cmpR (op_uNe hr.units) (pe_ix ix_uIx (pv 4) pe_int (fun _ _ => rfl)) (pe_ix ix_uIx (pv 3) pe_int (fun _ _ => rfl)) (nomark _))))) (pss_one (ps_set (i := 4) sc.nd rfl (by first | exact Or.inl rfl | exact Or.inr rfl) (pe_tup (pa_cons pe_str (pa_cons (pe_ix ix_uIx (pv 3) pe_int (fun _ _ => rfl)) pa_nil))))) pss_nil)
      (pss_cons (ps_set (i := 5) sc.nd rfl (by first | exact Or.inl rfl | exact Or.inr rfl) (pe_any (z_meth (z_call D_law_made (hr.mono (by decide)) (by rfl) (pa_cons (pv 3) pa_nil)) C_Range M_Range_outcomes (hr.mono (by decide)) (pa_cons (z_call D_law_built (hr.mono (by decide)) (by rfl) (pa_cons (pv 4) pa_nil)) pa_nil)) (z_meth (z_call D_law_made (hr.mono (by decide)) (by rfl) (pa_cons (pv 3) pa_nil)) C_Values M_Values_outcomes (hr.mono (by decide)) (pa_cons (z_call D_law_built (hr.mono (by decide)) (by rfl) (pa_cons (pv 4) pa_nil)) pa_nil))))
      (pss_cons (ps_set (i := 6) sc.nd rfl (by first | exact Or.inl rfl | exact Or.inr rfl) (z_call D_law_outcomes (hr.mono (by decide)) (by rfl) (pa_cons (pv 3) (pa_cons (pv 4) pa_nil))))
      (pss_one (ps_if (pt_cmpR op_uIs (pv 6) pe_non (nomark _)) (pss_one (ps_if (pt_cmpR op_uIsNot (pv 5) pe_non (nomark _)) (pss_one (ps_ret pe_bl)) pss_nil)) (pss_cons (ps_if (PW.pt (pw_or (pt_not (pt_u (pe_callB call_uIsi (by rfl) m_isinstance (by decide +kernel) (pa_cons (pv 5) (pa_cons (pe_bltn (by rfl) m_tuple (by decide +kernel) rfl) pa_nil))))) (pw_or1 (pt_cmpR (op_uNe hr.units) (pv 5) (pv 6) (nomark _))))) (pss_one (ps_ret pe_bl)) pss_nil)
      (pss_one (ps_if (PW.pt (pw_or (pt_not (pt_u (pe_callB call_uIsi (by rfl) m_isinstance (by decide +kernel) (pa_cons (pe_ix ix_uIx (pv 5) pe_int (fun _ _ => rfl)) (pa_cons (pe_bltn (by rfl) m_bool (by decide +kernel) rfl) pa_nil))))) (pw_or1 (pt_not (pt_u (pe_callB call_uIsi (by rfl) m_isinstance (by decide +kernel) (pa_cons (pe_ix ix_uIx (pv 5) pe_int (fun _ _ => rfl)) (pa_cons (pe_bltn (by rfl) m_bool (by decide +kernel) rfl) pa_nil)))))))) (pss_one (ps_ret pe_bl)) pss_nil)))))))))))
      (pss_one (ps_ret pe_bl))))
end
def cEnv (C0 C1 C2 C3 C4 C5 : Addr) : CEnv := ⟨fun x => (([("FieldFact", C0), ("Range", C1), ("Values", C2), ("Has", C3), ("Compare", C4), ("OneOf", C5)] : List (Str × Addr)).lookup x).getD 0, fun y => y ∈ (["OneOf", "Compare", "Has"] : List Str), fun y => y ∈ (["FieldFact", "Range", "Values", "Has", "Compare", "OneOf"] : List Str)⟩
theorem all_mk {l : PySem.W.OpenLaw} {w : World} {K : PySem.W.Frag} {h : Heap} {mg : Str → Option Value} {fa f0 f1 f2 f3 f4 f5 f6 f7 f8 f9 f10 f11 f12 f13 f14 f15 f16 f17 f18 f19 f20 f21 f22 f23 f24 f25 f26 f27 f28 C0 C1 C2 C3 C4 C5  : Addr} (X : K.In h) (G : h.Ns mainGlobals mg) (hfa : mg "law" = some (.ref fa))
    {tg0_0 tw0_0 tg0_1 tw0_1 tg0_2 tw0_2 tg0_3 tw0_3 tg0_4 tw0_4 tg0_5 tw0_5 tt5_lack tt6_lack : Tok}
    {kt0 : Addr} {ktn0 : Nat}
    {kh0_0 kh0_1 kh0_2 kh0_3 kh0_4 kh0_5 : Int}
    {kD5 kD6 : Addr}
    {od0 an0 od1 an1 od2 an2 od3 an3 od4 an4 od5 an5 od6 an6 od7 an7 od8 an8 od9 an9 od10 an10 od11 an11 od12 an12 od13 an13 od14 an14 od15 an15 od16 an16 od17 an17 od18 an18 od19 an19 od20 an20 od21 an21 od22 an22 od23 an23 od24 an24 od25 an25 od26 an26 od27 an27 od28 an28 : Option Addr} {sl0 sl1 sl2 sl3 sl4 sl5 sl6 sl7 sl8 sl9 sl10 sl11 sl12 sl13 sl14 sl15 sl16 sl17 sl18 sl19 sl20 sl21 sl22 sl23 sl24 sl25 sl26 sl27 sl28 : Array (Option Value)} {oc0 kV0 dc0 pm0 cd0 ct0 oc1 kV1 dc1 pm1 cd1 ct1 oc2 kV2 dc2 pm2 cd2 ct2 oc3 kV3 dc3 pm3 cd3 ct3 oc4 kV4 dc4 pm4 cd4 ct4 oc5 dc5 pm5 cd5 ct5 oc6 dc6 pm6 cd6 ct6 oc7 kV7 dc7 pm7 cd7 ct7 oc8 kV8 dc8 pm8 cd8 ct8 oc9 kV9 dc9 pm9 cd9 ct9 oc10 kV10 dc10 pm10 cd10 ct10 oc11 kV11 dc11 pm11 cd11 ct11 oc12 kV12 dc12 pm12 cd12 ct12 oc13 kV13 dc13 pm13 cd13 ct13 oc14 kV14 dc14 pm14 cd14 ct14 oc15 kV15 dc15 pm15 cd15 ct15 oc16 kV16 dc16 pm16 cd16 ct16 oc17 kV17 dc17 pm17 cd17 ct17 oc18 kV18 dc18 pm18 cd18 ct18 oc19 kV19 dc19 pm19 cd19 ct19 oc20 kV20 dc20 pm20 cd20 ct20 oc21 kV21 dc21 pm21 cd21 ct21 oc22 kV22 dc22 pm22 cd22 ct22 oc23 kV23 dc23 pm23 cd23 ct23 oc24 kV24 dc24 pm24 cd24 ct24 oc25 kV25 dc25 pm25 cd25 ct25 oc26 kV26 dc26 pm26 cd26 ct26 oc27 kV27 dc27 pm27 cd27 ct27 oc28 kV28 dc28 pm28 cd28 ct28 : Value}
    (b0 : PySem.W.nsIn K mainGlobals "FieldFact" = some (some (.ref C0)))
    (b1 : PySem.W.nsIn K mainGlobals "Range" = some (some (.ref C1)))
    (b2 : PySem.W.nsIn K mainGlobals "Values" = some (some (.ref C2)))
    (b3 : PySem.W.nsIn K mainGlobals "Has" = some (some (.ref C3)))
    (b4 : PySem.W.nsIn K mainGlobals "Compare" = some (some (.ref C4)))
    (b5 : PySem.W.nsIn K mainGlobals "OneOf" = some (some (.ref C5)))
    (pg0 : PySem.W.plainGet K C0 Str.empty = true)
    (hd0 : PySem.W.hasDictIn K C0 = true)
    (po0 : PySem.W.plainOver K C0 = true)
    (sa0 : PySem.W.findIn K (.ref C0) "__setattr__" = some (some (.builtin "object.__setattr__")))
    (ha0 : PySem.W.findIn K (.ref C0) "__class__" = some (some (.builtin "object.__class__")))
    (hm0 : PySem.W.mroIn K C0 (.type "object") = some true)
    (sr0 : PySem.W.readsIn K C0 (.type "type") = true)
    (sg0 : PySem.W.specialIn K (.ref C0) "__getattribute__" = some (some (.builtin "type.__getattribute__")))
    (n0_0 : PySem.W.findIn K (.ref C0) "field" = some none)
    (n0_1 : PySem.W.findIn K (.ref C0) "lack" = some none)
    (q0_0 : PySem.W.subIn K (.ref C0) (.ref C5) = some false)
    (q0_1 : PySem.W.subIn K (.ref C0) (.ref C4) = some false)
    (q0_2 : PySem.W.subIn K (.ref C0) (.ref C3) = some false)
    (pg1 : PySem.W.plainGet K C1 Str.empty = true)
    (hd1 : PySem.W.hasDictIn K C1 = true)
    (po1 : PySem.W.plainOver K C1 = true)
    (sa1 : PySem.W.findIn K (.ref C1) "__setattr__" = some (some (.builtin "object.__setattr__")))
    (ha1 : PySem.W.findIn K (.ref C1) "__class__" = some (some (.builtin "object.__class__")))
    (hm1 : PySem.W.mroIn K C1 (.type "object") = some true)
    (mk1 : PySem.W.makesIn K C1 = true)
    (kc1 : PySem.W.keepIn K (.ref C1) = true)
    (n1_0 : PySem.W.findIn K (.ref C1) "field" = some none)
    (n1_1 : PySem.W.findIn K (.ref C1) "lack" = some none)
    (n1_2 : PySem.W.findIn K (.ref C1) "low" = some none)
    (n1_3 : PySem.W.findIn K (.ref C1) "high" = some none)
    (q1_0 : PySem.W.subIn K (.ref C1) (.ref C5) = some false)
    (q1_1 : PySem.W.subIn K (.ref C1) (.ref C4) = some false)
    (q1_2 : PySem.W.subIn K (.ref C1) (.ref C3) = some false)
    (pg2 : PySem.W.plainGet K C2 Str.empty = true)
    (hd2 : PySem.W.hasDictIn K C2 = true)
    (po2 : PySem.W.plainOver K C2 = true)
    (sa2 : PySem.W.findIn K (.ref C2) "__setattr__" = some (some (.builtin "object.__setattr__")))
    (ha2 : PySem.W.findIn K (.ref C2) "__class__" = some (some (.builtin "object.__class__")))
    (hm2 : PySem.W.mroIn K C2 (.type "object") = some true)
    (mk2 : PySem.W.makesIn K C2 = true)
    (kc2 : PySem.W.keepIn K (.ref C2) = true)
    (n2_0 : PySem.W.findIn K (.ref C2) "field" = some none)
    (n2_1 : PySem.W.findIn K (.ref C2) "lack" = some none)
    (n2_2 : PySem.W.findIn K (.ref C2) "choices" = some none)
    (q2_0 : PySem.W.subIn K (.ref C2) (.ref C5) = some false)
    (q2_1 : PySem.W.subIn K (.ref C2) (.ref C4) = some false)
    (q2_2 : PySem.W.subIn K (.ref C2) (.ref C3) = some false)
    (pg3 : PySem.W.plainGet K C3 Str.empty = true)
    (hd3 : PySem.W.hasDictIn K C3 = true)
    (po3 : PySem.W.plainOver K C3 = true)
    (sa3 : PySem.W.findIn K (.ref C3) "__setattr__" = some (some (.builtin "object.__setattr__")))
    (ha3 : PySem.W.findIn K (.ref C3) "__class__" = some (some (.builtin "object.__class__")))
    (hm3 : PySem.W.mroIn K C3 (.type "object") = some true)
    (mk3 : PySem.W.makesIn K C3 = true)
    (kc3 : PySem.W.keepIn K (.ref C3) = true)
    (n3_0 : PySem.W.findIn K (.ref C3) "field" = some none)
    (q3_0 : PySem.W.subIn K (.ref C3) (.ref C5) = some false)
    (q3_1 : PySem.W.subIn K (.ref C3) (.ref C4) = some false)
    (q3_2 : PySem.W.subIn K (.ref C3) (.ref C3) = some true)
    (pg4 : PySem.W.plainGet K C4 Str.empty = true)
    (hd4 : PySem.W.hasDictIn K C4 = true)
    (po4 : PySem.W.plainOver K C4 = true)
    (sa4 : PySem.W.findIn K (.ref C4) "__setattr__" = some (some (.builtin "object.__setattr__")))
    (ha4 : PySem.W.findIn K (.ref C4) "__class__" = some (some (.builtin "object.__class__")))
    (hm4 : PySem.W.mroIn K C4 (.type "object") = some true)
    (mk4 : PySem.W.makesIn K C4 = true)
    (kc4 : PySem.W.keepIn K (.ref C4) = true)
    (n4_0 : PySem.W.findIn K (.ref C4) "field" = some none)
    (n4_1 : PySem.W.findIn K (.ref C4) "sign" = some none)
    (n4_2 : PySem.W.findIn K (.ref C4) "value" = some none)
    (q4_0 : PySem.W.subIn K (.ref C4) (.ref C5) = some false)
    (q4_1 : PySem.W.subIn K (.ref C4) (.ref C4) = some true)
    (q4_2 : PySem.W.subIn K (.ref C4) (.ref C3) = some false)
    (pg5 : PySem.W.plainGet K C5 Str.empty = true)
    (hd5 : PySem.W.hasDictIn K C5 = true)
    (po5 : PySem.W.plainOver K C5 = true)
    (sa5 : PySem.W.findIn K (.ref C5) "__setattr__" = some (some (.builtin "object.__setattr__")))
    (ha5 : PySem.W.findIn K (.ref C5) "__class__" = some (some (.builtin "object.__class__")))
    (hm5 : PySem.W.mroIn K C5 (.type "object") = some true)
    (mk5 : PySem.W.makesIn K C5 = true)
    (kc5 : PySem.W.keepIn K (.ref C5) = true)
    (n5_0 : PySem.W.findIn K (.ref C5) "field" = some none)
    (n5_1 : PySem.W.findIn K (.ref C5) "choices" = some none)
    (q5_0 : PySem.W.subIn K (.ref C5) (.ref C5) = some true)
    (q5_1 : PySem.W.subIn K (.ref C5) (.ref C4) = some false)
    (q5_2 : PySem.W.subIn K (.ref C5) (.ref C3) = some false)
    (ic0 : PySem.W.isClsIn K C5 = true)
    (ty0 : PySem.W.typeIn K (.ref C5) = some (.type "type"))
    (r0_int : PySem.W.subIn K (.type "int") (.ref C5) = some false)
    (r0_bool : PySem.W.subIn K (.type "bool") (.ref C5) = some false)
    (r0_str : PySem.W.subIn K (.type "str") (.ref C5) = some false)
    (r0_NoneType : PySem.W.subIn K (.type "NoneType") (.ref C5) = some false)
    (r0_tuple : PySem.W.subIn K (.type "tuple") (.ref C5) = some false)
    (r0_list : PySem.W.subIn K (.type "list") (.ref C5) = some false)
    (r0_dict : PySem.W.subIn K (.type "dict") (.ref C5) = some false)
    (ic1 : PySem.W.isClsIn K C4 = true)
    (ty1 : PySem.W.typeIn K (.ref C4) = some (.type "type"))
    (r1_int : PySem.W.subIn K (.type "int") (.ref C4) = some false)
    (r1_bool : PySem.W.subIn K (.type "bool") (.ref C4) = some false)
    (r1_str : PySem.W.subIn K (.type "str") (.ref C4) = some false)
    (r1_NoneType : PySem.W.subIn K (.type "NoneType") (.ref C4) = some false)
    (r1_tuple : PySem.W.subIn K (.type "tuple") (.ref C4) = some false)
    (r1_list : PySem.W.subIn K (.type "list") (.ref C4) = some false)
    (r1_dict : PySem.W.subIn K (.type "dict") (.ref C4) = some false)
    (ic2 : PySem.W.isClsIn K C3 = true)
    (ty2 : PySem.W.typeIn K (.ref C3) = some (.type "type"))
    (r2_int : PySem.W.subIn K (.type "int") (.ref C3) = some false)
    (r2_bool : PySem.W.subIn K (.type "bool") (.ref C3) = some false)
    (r2_str : PySem.W.subIn K (.type "str") (.ref C3) = some false)
    (r2_NoneType : PySem.W.subIn K (.type "NoneType") (.ref C3) = some false)
    (r2_tuple : PySem.W.subIn K (.type "tuple") (.ref C3) = some false)
    (r2_list : PySem.W.subIn K (.type "list") (.ref C3) = some false)
    (r2_dict : PySem.W.subIn K (.type "dict") (.ref C3) = some false)
    (hn : PySem.W.specialIn K (.builtin "object.__class__") "__get__" = some (some (.builtin "getset_descriptor.__get__")))
    (htk : PySem.W.takesIn K (.builtin "object.__class__") = some true)
    (nd : ([C0, C1, C2, C3, C4, C5] : List Addr).Nodup)
    (a0 : PySem.W.nsIn K mainGlobals "_law_row" = some (some (.ref f0)))
    (l0 : K.lookup f0 = some ⟨oc0, od0, .func (PySem.W.fnOf "_law_row" "_law_row" (defArgs s_law_row) (defBody s_law_row) (defScope s_law_row) .none kV0 dc0 pm0 an0 cd0 ct0), sl0⟩)
    (c0 : PySem.W.codeIn K cd0 "_law_row" = true)
    (k0 : PySem.W.keepIn K (.ref f0) = true)
    (a1 : PySem.W.nsIn K mainGlobals "_law_next" = some (some (.ref f1)))
    (l1 : K.lookup f1 = some ⟨oc1, od1, .func (PySem.W.fnOf "_law_next" "_law_next" (defArgs s_law_next) (defBody s_law_next) (defScope s_law_next) .none kV1 dc1 pm1 an1 cd1 ct1), sl1⟩)
    (c1 : PySem.W.codeIn K cd1 "_law_next" = true)
    (k1 : PySem.W.keepIn K (.ref f1) = true)
    (a2 : PySem.W.nsIn K mainGlobals "_law_field_fact" = some (some (.ref f2)))
    (l2 : K.lookup f2 = some ⟨oc2, od2, .func (PySem.W.fnOf "_law_field_fact" "_law_field_fact" (defArgs s_law_field_fact) (defBody s_law_field_fact) (defScope s_law_field_fact) .none kV2 dc2 pm2 an2 cd2 ct2), sl2⟩)
    (c2 : PySem.W.codeIn K cd2 "_law_field_fact" = true)
    (k2 : PySem.W.keepIn K (.ref f2) = true)
    (a3 : PySem.W.nsIn K mainGlobals "_law_leaf" = some (some (.ref f3)))
    (l3 : K.lookup f3 = some ⟨oc3, od3, .func (PySem.W.fnOf "_law_leaf" "_law_leaf" (defArgs s_law_leaf) (defBody s_law_leaf) (defScope s_law_leaf) .none kV3 dc3 pm3 an3 cd3 ct3), sl3⟩)
    (c3 : PySem.W.codeIn K cd3 "_law_leaf" = true)
    (k3 : PySem.W.keepIn K (.ref f3) = true)
    (a4 : PySem.W.findIn K (.ref C0) "__init__" = some (some (.ref f4)))
    (i4 : PySem.W.isFn K (.ref f4) = true)
    (sf4 : PySem.W.findCls K (.ref C0) (.type "type") "__init__" = some (.val (.ref f4)))
    (l4 : K.lookup f4 = some ⟨oc4, od4, .func (PySem.W.fnOf "__init__" "FieldFact.__init__" (defArgs s_FieldFact_init) (defBody s_FieldFact_init) (defScope s_FieldFact_init) .none kV4 dc4 pm4 an4 cd4 ct4), sl4⟩)
    (c4 : PySem.W.codeIn K cd4 "FieldFact.__init__" = true)
    (k4 : PySem.W.keepIn K (.ref f4) = true)
    (a5 : PySem.W.findIn K (.ref C1) "__init__" = some (some (.ref f5)))
    (i5 : PySem.W.isFn K (.ref f5) = true)
    (l5 : K.lookup f5 = some ⟨oc5, od5, .func (PySem.W.fnOf "__init__" "Range.__init__" (defArgs s_Range_init) (defBody s_Range_init) (defScope s_Range_init) .none (.ref kD5) dc5 pm5 an5 cd5 ct5), sl5⟩)
    (c5 : PySem.W.codeIn K cd5 "Range.__init__" = true)
    (k5 : PySem.W.keepIn K (.ref f5) = true)
    (a6 : PySem.W.findIn K (.ref C2) "__init__" = some (some (.ref f6)))
    (i6 : PySem.W.isFn K (.ref f6) = true)
    (l6 : K.lookup f6 = some ⟨oc6, od6, .func (PySem.W.fnOf "__init__" "Values.__init__" (defArgs s_Values_init) (defBody s_Values_init) (defScope s_Values_init) .none (.ref kD6) dc6 pm6 an6 cd6 ct6), sl6⟩)
    (c6 : PySem.W.codeIn K cd6 "Values.__init__" = true)
    (k6 : PySem.W.keepIn K (.ref f6) = true)
    (a7 : PySem.W.nsIn K mainGlobals "_law_made" = some (some (.ref f7)))
    (l7 : K.lookup f7 = some ⟨oc7, od7, .func (PySem.W.fnOf "_law_made" "_law_made" (defArgs s_law_made) (defBody s_law_made) (defScope s_law_made) .none kV7 dc7 pm7 an7 cd7 ct7), sl7⟩)
    (c7 : PySem.W.codeIn K cd7 "_law_made" = true)
    (k7 : PySem.W.keepIn K (.ref f7) = true)
    (a8 : PySem.W.findIn K (.ref C3) "__init__" = some (some (.ref f8)))
    (i8 : PySem.W.isFn K (.ref f8) = true)
    (l8 : K.lookup f8 = some ⟨oc8, od8, .func (PySem.W.fnOf "__init__" "Has.__init__" (defArgs s_Has_init) (defBody s_Has_init) (defScope s_Has_init) .none kV8 dc8 pm8 an8 cd8 ct8), sl8⟩)
    (c8 : PySem.W.codeIn K cd8 "Has.__init__" = true)
    (k8 : PySem.W.keepIn K (.ref f8) = true)
    (a9 : PySem.W.findIn K (.ref C4) "__init__" = some (some (.ref f9)))
    (i9 : PySem.W.isFn K (.ref f9) = true)
    (l9 : K.lookup f9 = some ⟨oc9, od9, .func (PySem.W.fnOf "__init__" "Compare.__init__" (defArgs s_Compare_init) (defBody s_Compare_init) (defScope s_Compare_init) .none kV9 dc9 pm9 an9 cd9 ct9), sl9⟩)
    (c9 : PySem.W.codeIn K cd9 "Compare.__init__" = true)
    (k9 : PySem.W.keepIn K (.ref f9) = true)
    (a10 : PySem.W.findIn K (.ref C5) "__init__" = some (some (.ref f10)))
    (i10 : PySem.W.isFn K (.ref f10) = true)
    (l10 : K.lookup f10 = some ⟨oc10, od10, .func (PySem.W.fnOf "__init__" "OneOf.__init__" (defArgs s_OneOf_init) (defBody s_OneOf_init) (defScope s_OneOf_init) .none kV10 dc10 pm10 an10 cd10 ct10), sl10⟩)
    (c10 : PySem.W.codeIn K cd10 "OneOf.__init__" = true)
    (k10 : PySem.W.keepIn K (.ref f10) = true)
    (a11 : PySem.W.nsIn K mainGlobals "_law_built" = some (some (.ref f11)))
    (l11 : K.lookup f11 = some ⟨oc11, od11, .func (PySem.W.fnOf "_law_built" "_law_built" (defArgs s_law_built) (defBody s_law_built) (defScope s_law_built) .none kV11 dc11 pm11 an11 cd11 ct11), sl11⟩)
    (c11 : PySem.W.codeIn K cd11 "_law_built" = true)
    (k11 : PySem.W.keepIn K (.ref f11) = true)
    (a12 : PySem.W.nsIn K mainGlobals "is_about" = some (some (.ref f12)))
    (l12 : K.lookup f12 = some ⟨oc12, od12, .func (PySem.W.fnOf "is_about" "is_about" (defArgs s_is_about) (defBody s_is_about) (defScope s_is_about) .none kV12 dc12 pm12 an12 cd12 ct12), sl12⟩)
    (c12 : PySem.W.codeIn K cd12 "is_about" = true)
    (k12 : PySem.W.keepIn K (.ref f12) = true)
    (a13 : PySem.W.nsIn K mainGlobals "is_integer" = some (some (.ref f13)))
    (l13 : K.lookup f13 = some ⟨oc13, od13, .func (PySem.W.fnOf "is_integer" "is_integer" (defArgs s_is_integer) (defBody s_is_integer) (defScope s_is_integer) .none kV13 dc13 pm13 an13 cd13 ct13), sl13⟩)
    (c13 : PySem.W.codeIn K cd13 "is_integer" = true)
    (k13 : PySem.W.keepIn K (.ref f13) = true)
    (a14 : PySem.W.nsIn K mainGlobals "range_passes" = some (some (.ref f14)))
    (l14 : K.lookup f14 = some ⟨oc14, od14, .func (PySem.W.fnOf "range_passes" "range_passes" (defArgs s_range_passes) (defBody s_range_passes) (defScope s_range_passes) .none kV14 dc14 pm14 an14 cd14 ct14), sl14⟩)
    (c14 : PySem.W.codeIn K cd14 "range_passes" = true)
    (k14 : PySem.W.keepIn K (.ref f14) = true)
    (a15 : PySem.W.findIn K (.ref C1) "outcomes_of_present" = some (some (.ref f15)))
    (i15 : PySem.W.isFn K (.ref f15) = true)
    (l15 : K.lookup f15 = some ⟨oc15, od15, .func (PySem.W.fnOf "outcomes_of_present" "Range.outcomes_of_present" (defArgs s_Range_outcomes_of_present) (defBody s_Range_outcomes_of_present) (defScope s_Range_outcomes_of_present) .none kV15 dc15 pm15 an15 cd15 ct15), sl15⟩)
    (c15 : PySem.W.codeIn K cd15 "Range.outcomes_of_present" = true)
    (k15 : PySem.W.keepIn K (.ref f15) = true)
    (a16 : PySem.W.nsIn K mainGlobals "same_value" = some (some (.ref f16)))
    (l16 : K.lookup f16 = some ⟨oc16, od16, .func (PySem.W.fnOf "same_value" "same_value" (defArgs s_same_value) (defBody s_same_value) (defScope s_same_value) .none kV16 dc16 pm16 an16 cd16 ct16), sl16⟩)
    (c16 : PySem.W.codeIn K cd16 "same_value" = true)
    (k16 : PySem.W.keepIn K (.ref f16) = true)
    (a17 : PySem.W.nsIn K mainGlobals "is_one_of" = some (some (.ref f17)))
    (l17 : K.lookup f17 = some ⟨oc17, od17, .func (PySem.W.fnOf "is_one_of" "is_one_of" (defArgs s_is_one_of) (defBody s_is_one_of) (defScope s_is_one_of) .none kV17 dc17 pm17 an17 cd17 ct17), sl17⟩)
    (c17 : PySem.W.codeIn K cd17 "is_one_of" = true)
    (k17 : PySem.W.keepIn K (.ref f17) = true)
    (a18 : PySem.W.nsIn K mainGlobals "same_kind" = some (some (.ref f18)))
    (l18 : K.lookup f18 = some ⟨oc18, od18, .func (PySem.W.fnOf "same_kind" "same_kind" (defArgs s_same_kind) (defBody s_same_kind) (defScope s_same_kind) .none kV18 dc18 pm18 an18 cd18 ct18), sl18⟩)
    (c18 : PySem.W.codeIn K cd18 "same_kind" = true)
    (k18 : PySem.W.keepIn K (.ref f18) = true)
    (a19 : PySem.W.nsIn K mainGlobals "compare" = some (some (.ref f19)))
    (l19 : K.lookup f19 = some ⟨oc19, od19, .func (PySem.W.fnOf "compare" "compare" (defArgs s_compare) (defBody s_compare) (defScope s_compare) .none kV19 dc19 pm19 an19 cd19 ct19), sl19⟩)
    (c19 : PySem.W.codeIn K cd19 "compare" = true)
    (k19 : PySem.W.keepIn K (.ref f19) = true)
    (a20 : PySem.W.nsIn K mainGlobals "satisfies" = some (some (.ref f20)))
    (l20 : K.lookup f20 = some ⟨oc20, od20, .func (PySem.W.fnOf "satisfies" "satisfies" (defArgs s_satisfies) (defBody s_satisfies) (defScope s_satisfies) .none kV20 dc20 pm20 an20 cd20 ct20), sl20⟩)
    (c20 : PySem.W.codeIn K cd20 "satisfies" = true)
    (k20 : PySem.W.keepIn K (.ref f20) = true)
    (a21 : PySem.W.findIn K (.ref C2) "outcomes_of_present" = some (some (.ref f21)))
    (i21 : PySem.W.isFn K (.ref f21) = true)
    (l21 : K.lookup f21 = some ⟨oc21, od21, .func (PySem.W.fnOf "outcomes_of_present" "Values.outcomes_of_present" (defArgs s_Values_outcomes_of_present) (defBody s_Values_outcomes_of_present) (defScope s_Values_outcomes_of_present) .none kV21 dc21 pm21 an21 cd21 ct21), sl21⟩)
    (c21 : PySem.W.codeIn K cd21 "Values.outcomes_of_present" = true)
    (k21 : PySem.W.keepIn K (.ref f21) = true)
    (a22 : PySem.W.findIn K (.ref C0) "field_outcomes" = some (some (.ref f22)))
    (i22 : PySem.W.isFn K (.ref f22) = true)
    (ai22_Range : PySem.W.findIn K (.ref C1) "field_outcomes" = some (some (.ref f22)))
    (ai22_Values : PySem.W.findIn K (.ref C2) "field_outcomes" = some (some (.ref f22)))
    (l22 : K.lookup f22 = some ⟨oc22, od22, .func (PySem.W.fnOf "field_outcomes" "FieldFact.field_outcomes" (defArgs s_FieldFact_field_outcomes) (defBody s_FieldFact_field_outcomes) (defScope s_FieldFact_field_outcomes) .none kV22 dc22 pm22 an22 cd22 ct22), sl22⟩)
    (c22 : PySem.W.codeIn K cd22 "FieldFact.field_outcomes" = true)
    (k22 : PySem.W.keepIn K (.ref f22) = true)
    (a23 : PySem.W.findIn K (.ref C1) "outcomes" = some (some (.ref f23)))
    (i23 : PySem.W.isFn K (.ref f23) = true)
    (l23 : K.lookup f23 = some ⟨oc23, od23, .func (PySem.W.fnOf "outcomes" "Range.outcomes" (defArgs s_Range_outcomes) (defBody s_Range_outcomes) (defScope s_Range_outcomes) .none kV23 dc23 pm23 an23 cd23 ct23), sl23⟩)
    (c23 : PySem.W.codeIn K cd23 "Range.outcomes" = true)
    (k23 : PySem.W.keepIn K (.ref f23) = true)
    (a24 : PySem.W.findIn K (.ref C2) "outcomes" = some (some (.ref f24)))
    (i24 : PySem.W.isFn K (.ref f24) = true)
    (l24 : K.lookup f24 = some ⟨oc24, od24, .func (PySem.W.fnOf "outcomes" "Values.outcomes" (defArgs s_Values_outcomes) (defBody s_Values_outcomes) (defScope s_Values_outcomes) .none kV24 dc24 pm24 an24 cd24 ct24), sl24⟩)
    (c24 : PySem.W.codeIn K cd24 "Values.outcomes" = true)
    (k24 : PySem.W.keepIn K (.ref f24) = true)
    (a25 : PySem.W.nsIn K mainGlobals "_law_compares" = some (some (.ref f25)))
    (l25 : K.lookup f25 = some ⟨oc25, od25, .func (PySem.W.fnOf "_law_compares" "_law_compares" (defArgs s_law_compares) (defBody s_law_compares) (defScope s_law_compares) .none kV25 dc25 pm25 an25 cd25 ct25), sl25⟩)
    (c25 : PySem.W.codeIn K cd25 "_law_compares" = true)
    (k25 : PySem.W.keepIn K (.ref f25) = true)
    (a26 : PySem.W.nsIn K mainGlobals "_law_worth_passes" = some (some (.ref f26)))
    (l26 : K.lookup f26 = some ⟨oc26, od26, .func (PySem.W.fnOf "_law_worth_passes" "_law_worth_passes" (defArgs s_law_worth_passes) (defBody s_law_worth_passes) (defScope s_law_worth_passes) .none kV26 dc26 pm26 an26 cd26 ct26), sl26⟩)
    (c26 : PySem.W.codeIn K cd26 "_law_worth_passes" = true)
    (k26 : PySem.W.keepIn K (.ref f26) = true)
    (a27 : PySem.W.nsIn K mainGlobals "_law_outcomes" = some (some (.ref f27)))
    (l27 : K.lookup f27 = some ⟨oc27, od27, .func (PySem.W.fnOf "_law_outcomes" "_law_outcomes" (defArgs s_law_outcomes) (defBody s_law_outcomes) (defScope s_law_outcomes) .none kV27 dc27 pm27 an27 cd27 ct27), sl27⟩)
    (c27 : PySem.W.codeIn K cd27 "_law_outcomes" = true)
    (k27 : PySem.W.keepIn K (.ref f27) = true)
    (a28 : PySem.W.nsIn K mainGlobals "law" = some (some (.ref f28)))
    (l28 : K.lookup f28 = some ⟨oc28, od28, .func (PySem.W.fnOf "law" "law" (defArgs s_law) (defBody s_law) (defScope s_law) .none kV28 dc28 pm28 an28 cd28 ct28), sl28⟩)
    (c28 : PySem.W.codeIn K cd28 "law" = true)
    (k28 : PySem.W.keepIn K (.ref f28) = true)
    (kd5_lack : PySem.W.nsIn K kD5 "lack" = some (some (.str "nobody" tt5_lack)))
    (kd6_lack : PySem.W.nsIn K kD6 "lack" = some (some (.str "nobody" tt6_lack)))
    (z0 : PySem.W.nsIn K mainGlobals "len" = some none)
    (z1 : PySem.W.nsIn K mainGlobals "int" = some none)
    (z2 : PySem.W.nsIn K mainGlobals "range" = some none)
    (z3 : PySem.W.nsIn K mainGlobals "tuple" = some none)
    (z4 : PySem.W.nsIn K mainGlobals "list" = some none)
    (z5 : PySem.W.nsIn K mainGlobals "isinstance" = some none)
    (z6 : PySem.W.nsIn K mainGlobals "bool" = some none)
    (z7 : PySem.W.nsIn K mainGlobals "str" = some none)
    (kg0 : PySem.W.nsIn K mainGlobals "OPPOSITES" = some (some (.ref kt0)))
    (kl0 : K.lookup kt0 = some ⟨.type "dict", none, .dict ([⟨kh0_0, .str "=" tg0_0, .str "!=" tw0_0⟩, ⟨kh0_1, .str "!=" tg0_1, .str "=" tw0_1⟩, ⟨kh0_2, .str "<" tg0_2, .str ">=" tw0_2⟩, ⟨kh0_3, .str "<=" tg0_3, .str ">" tw0_3⟩, ⟨kh0_4, .str ">" tg0_4, .str "<=" tw0_4⟩, ⟨kh0_5, .str ">=" tg0_5, .str "<" tw0_5⟩] : List DictEntry).toArray ktn0, #[]⟩)
    (kk0 : PySem.W.KeysLit w.params [⟨kh0_0, .str "=" tg0_0, .str "!=" tw0_0⟩, ⟨kh0_1, .str "!=" tg0_1, .str "=" tw0_1⟩, ⟨kh0_2, .str "<" tg0_2, .str ">=" tw0_2⟩, ⟨kh0_3, .str "<=" tg0_3, .str ">" tw0_3⟩, ⟨kh0_4, .str ">" tg0_4, .str "<=" tw0_4⟩, ⟨kh0_5, .str ">=" tg0_5, .str "<" tw0_5⟩])
    (ko0 : (kt0 == sysModules) = false)
    : ∃ fd : FuncData, (∀ (s : Shared) (v : Value), BindsTo s fd ⟨[v], []⟩ [("_law_script", v)]) ∧ ∀ base : Heap, K.In base → base.Ns mainGlobals mg → FnOk l.prog w K mg base CX0 7 fa fd ["_law_script"] (sp_law K) := by
  have e := hfa.symm.trans (PySem.W.mg_of X G a28)
  cases e
  have m_len := PySem.W.mg_none_of X G z0
  have m_int := PySem.W.mg_none_of X G z1
  have m_range := PySem.W.mg_none_of X G z2
  have m_tuple := PySem.W.mg_none_of X G z3
  have m_list := PySem.W.mg_none_of X G z4
  have m_isinstance := PySem.W.mg_none_of X G z5
  have m_bool := PySem.W.mg_none_of X G z6
  have m_str := PySem.W.mg_none_of X G z7
  have g_OPPOSITES : KD K w mg "OPPOSITES" [("=", .v (.str "!=")), ("!=", .v (.str "=")), ("<", .v (.str ">=")), ("<=", .v (.str ">")), (">", .v (.str "<=")), (">=", .v (.str "<"))] := kd_of (PySem.W.mg_of X G kg0) kl0 kk0 ko0 (.cons ⟨⟨_, rfl⟩, ⟨.str "!=", ⟨_, rfl⟩, rfl⟩⟩ (.cons ⟨⟨_, rfl⟩, ⟨.str "=", ⟨_, rfl⟩, rfl⟩⟩ (.cons ⟨⟨_, rfl⟩, ⟨.str ">=", ⟨_, rfl⟩, rfl⟩⟩ (.cons ⟨⟨_, rfl⟩, ⟨.str ">", ⟨_, rfl⟩, rfl⟩⟩ (.cons ⟨⟨_, rfl⟩, ⟨.str "<=", ⟨_, rfl⟩, rfl⟩⟩ (.cons ⟨⟨_, rfl⟩, ⟨.str "<", ⟨_, rfl⟩, rfl⟩⟩ .nil))))))
  have F0 := fun_mk (st := s_law_row) l0 c0 k0
  have F1 := fun_mk (st := s_law_next) l1 c1 k1
  have F2 := fun_mk (st := s_law_field_fact) l2 c2 k2
  have F3 := fun_mk (st := s_law_leaf) l3 c3 k3
  have F4 := fun_mk (st := s_FieldFact_init) l4 c4 k4
  have F5 := fun_mk (st := s_Range_init) l5 c5 k5
  have F6 := fun_mk (st := s_Values_init) l6 c6 k6
  have F7 := fun_mk (st := s_law_made) l7 c7 k7
  have F8 := fun_mk (st := s_Has_init) l8 c8 k8
  have F9 := fun_mk (st := s_Compare_init) l9 c9 k9
  have F10 := fun_mk (st := s_OneOf_init) l10 c10 k10
  have F11 := fun_mk (st := s_law_built) l11 c11 k11
  have F12 := fun_mk (st := s_is_about) l12 c12 k12
  have F13 := fun_mk (st := s_is_integer) l13 c13 k13
  have F14 := fun_mk (st := s_range_passes) l14 c14 k14
  have F15 := fun_mk (st := s_Range_outcomes_of_present) l15 c15 k15
  have F16 := fun_mk (st := s_same_value) l16 c16 k16
  have F17 := fun_mk (st := s_is_one_of) l17 c17 k17
  have F18 := fun_mk (st := s_same_kind) l18 c18 k18
  have F19 := fun_mk (st := s_compare) l19 c19 k19
  have F20 := fun_mk (st := s_satisfies) l20 c20 k20
  have F21 := fun_mk (st := s_Values_outcomes_of_present) l21 c21 k21
  have F22 := fun_mk (st := s_FieldFact_field_outcomes) l22 c22 k22
  have F23 := fun_mk (st := s_Range_outcomes) l23 c23 k23
  have F24 := fun_mk (st := s_Values_outcomes) l24 c24 k24
  have F25 := fun_mk (st := s_law_compares) l25 c25 k25
  have F26 := fun_mk (st := s_law_worth_passes) l26 c26 k26
  have F27 := fun_mk (st := s_law_outcomes) l27 c27 k27
  have F28 := fun_mk (st := s_law) l28 c28 k28
  have I_OneOf : IsF K (cEnv C0 C1 C2 C3 C4 C5) "OneOf" := ⟨(by show _ ∈ (["OneOf", "Compare", "Has"] : List Str); simp), ki_of (List.forall_mem_cons.mpr ⟨kit_own ic0 ty0 q5_0 r0_int, (List.forall_mem_cons.mpr ⟨kit_own ic0 ty0 q5_0 r0_bool, (List.forall_mem_cons.mpr ⟨kit_own ic0 ty0 q5_0 r0_str, (List.forall_mem_cons.mpr ⟨kit_own ic0 ty0 q5_0 r0_NoneType, (List.forall_mem_cons.mpr ⟨kit_own ic0 ty0 q5_0 r0_tuple, (List.forall_mem_cons.mpr ⟨kit_own ic0 ty0 q5_0 r0_list, (List.forall_mem_cons.mpr ⟨kit_own ic0 ty0 q5_0 r0_dict, (fun _ h => nomatch h)⟩)⟩)⟩)⟩)⟩)⟩)⟩), si_of (List.forall_mem_cons.mpr ⟨r0_int, (List.forall_mem_cons.mpr ⟨r0_bool, (List.forall_mem_cons.mpr ⟨r0_str, (List.forall_mem_cons.mpr ⟨r0_NoneType, (List.forall_mem_cons.mpr ⟨r0_tuple, (List.forall_mem_cons.mpr ⟨r0_list, (List.forall_mem_cons.mpr ⟨r0_dict, (fun _ h => nomatch h)⟩)⟩)⟩)⟩)⟩)⟩)⟩)⟩
  have I_Compare : IsF K (cEnv C0 C1 C2 C3 C4 C5) "Compare" := ⟨(by show _ ∈ (["OneOf", "Compare", "Has"] : List Str); simp), ki_of (List.forall_mem_cons.mpr ⟨kit_own ic1 ty1 q4_1 r1_int, (List.forall_mem_cons.mpr ⟨kit_own ic1 ty1 q4_1 r1_bool, (List.forall_mem_cons.mpr ⟨kit_own ic1 ty1 q4_1 r1_str, (List.forall_mem_cons.mpr ⟨kit_own ic1 ty1 q4_1 r1_NoneType, (List.forall_mem_cons.mpr ⟨kit_own ic1 ty1 q4_1 r1_tuple, (List.forall_mem_cons.mpr ⟨kit_own ic1 ty1 q4_1 r1_list, (List.forall_mem_cons.mpr ⟨kit_own ic1 ty1 q4_1 r1_dict, (fun _ h => nomatch h)⟩)⟩)⟩)⟩)⟩)⟩)⟩), si_of (List.forall_mem_cons.mpr ⟨r1_int, (List.forall_mem_cons.mpr ⟨r1_bool, (List.forall_mem_cons.mpr ⟨r1_str, (List.forall_mem_cons.mpr ⟨r1_NoneType, (List.forall_mem_cons.mpr ⟨r1_tuple, (List.forall_mem_cons.mpr ⟨r1_list, (List.forall_mem_cons.mpr ⟨r1_dict, (fun _ h => nomatch h)⟩)⟩)⟩)⟩)⟩)⟩)⟩)⟩
  have I_Has : IsF K (cEnv C0 C1 C2 C3 C4 C5) "Has" := ⟨(by show _ ∈ (["OneOf", "Compare", "Has"] : List Str); simp), ki_of (List.forall_mem_cons.mpr ⟨kit_own ic2 ty2 q3_2 r2_int, (List.forall_mem_cons.mpr ⟨kit_own ic2 ty2 q3_2 r2_bool, (List.forall_mem_cons.mpr ⟨kit_own ic2 ty2 q3_2 r2_str, (List.forall_mem_cons.mpr ⟨kit_own ic2 ty2 q3_2 r2_NoneType, (List.forall_mem_cons.mpr ⟨kit_own ic2 ty2 q3_2 r2_tuple, (List.forall_mem_cons.mpr ⟨kit_own ic2 ty2 q3_2 r2_list, (List.forall_mem_cons.mpr ⟨kit_own ic2 ty2 q3_2 r2_dict, (fun _ h => nomatch h)⟩)⟩)⟩)⟩)⟩)⟩)⟩), si_of (List.forall_mem_cons.mpr ⟨r2_int, (List.forall_mem_cons.mpr ⟨r2_bool, (List.forall_mem_cons.mpr ⟨r2_str, (List.forall_mem_cons.mpr ⟨r2_NoneType, (List.forall_mem_cons.mpr ⟨r2_tuple, (List.forall_mem_cons.mpr ⟨r2_list, (List.forall_mem_cons.mpr ⟨r2_dict, (fun _ h => nomatch h)⟩)⟩)⟩)⟩)⟩)⟩)⟩)⟩
  have O_FieldFact : ClsOk K (cEnv C0 C1 C2 C3 C4 C5) "FieldFact" ["field", "lack"] := ⟨⟨pg0, hd0, po0, sa0⟩, na_of (List.forall_mem_cons.mpr ⟨n0_0, (List.forall_mem_cons.mpr ⟨n0_1, (fun _ h => nomatch h)⟩)⟩), ha0, hn, htk, hm0, (List.forall_mem_cons.mpr ⟨(by rw [show SUB "FieldFact" "OneOf" = false by decide +kernel]; exact kit_own ic0 ty0 q5_0 q0_0), (List.forall_mem_cons.mpr ⟨(by rw [show SUB "FieldFact" "Compare" = false by decide +kernel]; exact kit_own ic1 ty1 q4_1 q0_1), (List.forall_mem_cons.mpr ⟨(by rw [show SUB "FieldFact" "Has" = false by decide +kernel]; exact kit_own ic2 ty2 q3_2 q0_2), (fun _ h => nomatch h)⟩)⟩)⟩), (List.forall_mem_cons.mpr ⟨(by rw [show SUB "FieldFact" "OneOf" = false by decide +kernel]; exact q0_0), (List.forall_mem_cons.mpr ⟨(by rw [show SUB "FieldFact" "Compare" = false by decide +kernel]; exact q0_1), (List.forall_mem_cons.mpr ⟨(by rw [show SUB "FieldFact" "Has" = false by decide +kernel]; exact q0_2), (fun _ h => nomatch h)⟩)⟩)⟩), (by show _ ∈ (["FieldFact", "Range", "Values", "Has", "Compare", "OneOf"] : List Str); simp), fun y hy e => lk_inj (l := [("FieldFact", C0), ("Range", C1), ("Values", C2), ("Has", C3), ("Compare", C4), ("OneOf", C5)]) (show (["FieldFact", "Range", "Values", "Has", "Compare", "OneOf"] : List Str).Nodup by decide) nd (by show _ ∈ (["FieldFact", "Range", "Values", "Has", "Compare", "OneOf"] : List Str); simp) hy e⟩
  have C_FieldFact : ClsF K mg (cEnv C0 C1 C2 C3 C4 C5) "FieldFact" ["field", "lack"] := ⟨O_FieldFact, fun h => absurd h (by show _ ∉ (["OneOf", "Compare", "Has"] : List Str); decide +kernel), PySem.W.mg_of X G b0⟩
  have O_Range : ClsOk K (cEnv C0 C1 C2 C3 C4 C5) "Range" ["field", "lack", "low", "high"] := ⟨⟨pg1, hd1, po1, sa1⟩, na_of (List.forall_mem_cons.mpr ⟨n1_0, (List.forall_mem_cons.mpr ⟨n1_1, (List.forall_mem_cons.mpr ⟨n1_2, (List.forall_mem_cons.mpr ⟨n1_3, (fun _ h => nomatch h)⟩)⟩)⟩)⟩), ha1, hn, htk, hm1, (List.forall_mem_cons.mpr ⟨(by rw [show SUB "Range" "OneOf" = false by decide +kernel]; exact kit_own ic0 ty0 q5_0 q1_0), (List.forall_mem_cons.mpr ⟨(by rw [show SUB "Range" "Compare" = false by decide +kernel]; exact kit_own ic1 ty1 q4_1 q1_1), (List.forall_mem_cons.mpr ⟨(by rw [show SUB "Range" "Has" = false by decide +kernel]; exact kit_own ic2 ty2 q3_2 q1_2), (fun _ h => nomatch h)⟩)⟩)⟩), (List.forall_mem_cons.mpr ⟨(by rw [show SUB "Range" "OneOf" = false by decide +kernel]; exact q1_0), (List.forall_mem_cons.mpr ⟨(by rw [show SUB "Range" "Compare" = false by decide +kernel]; exact q1_1), (List.forall_mem_cons.mpr ⟨(by rw [show SUB "Range" "Has" = false by decide +kernel]; exact q1_2), (fun _ h => nomatch h)⟩)⟩)⟩), (by show _ ∈ (["FieldFact", "Range", "Values", "Has", "Compare", "OneOf"] : List Str); simp), fun y hy e => lk_inj (l := [("FieldFact", C0), ("Range", C1), ("Values", C2), ("Has", C3), ("Compare", C4), ("OneOf", C5)]) (show (["FieldFact", "Range", "Values", "Has", "Compare", "OneOf"] : List Str).Nodup by decide) nd (by show _ ∈ (["FieldFact", "Range", "Values", "Has", "Compare", "OneOf"] : List Str); simp) hy e⟩
  have C_Range : ClsF K mg (cEnv C0 C1 C2 C3 C4 C5) "Range" ["field", "lack", "low", "high"] := ⟨O_Range, fun h => absurd h (by show _ ∉ (["OneOf", "Compare", "Has"] : List Str); decide +kernel), PySem.W.mg_of X G b1⟩
  have O_Values : ClsOk K (cEnv C0 C1 C2 C3 C4 C5) "Values" ["field", "lack", "choices"] := ⟨⟨pg2, hd2, po2, sa2⟩, na_of (List.forall_mem_cons.mpr ⟨n2_0, (List.forall_mem_cons.mpr ⟨n2_1, (List.forall_mem_cons.mpr ⟨n2_2, (fun _ h => nomatch h)⟩)⟩)⟩), ha2, hn, htk, hm2, (List.forall_mem_cons.mpr ⟨(by rw [show SUB "Values" "OneOf" = false by decide +kernel]; exact kit_own ic0 ty0 q5_0 q2_0), (List.forall_mem_cons.mpr ⟨(by rw [show SUB "Values" "Compare" = false by decide +kernel]; exact kit_own ic1 ty1 q4_1 q2_1), (List.forall_mem_cons.mpr ⟨(by rw [show SUB "Values" "Has" = false by decide +kernel]; exact kit_own ic2 ty2 q3_2 q2_2), (fun _ h => nomatch h)⟩)⟩)⟩), (List.forall_mem_cons.mpr ⟨(by rw [show SUB "Values" "OneOf" = false by decide +kernel]; exact q2_0), (List.forall_mem_cons.mpr ⟨(by rw [show SUB "Values" "Compare" = false by decide +kernel]; exact q2_1), (List.forall_mem_cons.mpr ⟨(by rw [show SUB "Values" "Has" = false by decide +kernel]; exact q2_2), (fun _ h => nomatch h)⟩)⟩)⟩), (by show _ ∈ (["FieldFact", "Range", "Values", "Has", "Compare", "OneOf"] : List Str); simp), fun y hy e => lk_inj (l := [("FieldFact", C0), ("Range", C1), ("Values", C2), ("Has", C3), ("Compare", C4), ("OneOf", C5)]) (show (["FieldFact", "Range", "Values", "Has", "Compare", "OneOf"] : List Str).Nodup by decide) nd (by show _ ∈ (["FieldFact", "Range", "Values", "Has", "Compare", "OneOf"] : List Str); simp) hy e⟩
  have C_Values : ClsF K mg (cEnv C0 C1 C2 C3 C4 C5) "Values" ["field", "lack", "choices"] := ⟨O_Values, fun h => absurd h (by show _ ∉ (["OneOf", "Compare", "Has"] : List Str); decide +kernel), PySem.W.mg_of X G b2⟩
  have O_Has : ClsOk K (cEnv C0 C1 C2 C3 C4 C5) "Has" ["field"] := ⟨⟨pg3, hd3, po3, sa3⟩, na_of (List.forall_mem_cons.mpr ⟨n3_0, (fun _ h => nomatch h)⟩), ha3, hn, htk, hm3, (List.forall_mem_cons.mpr ⟨(by rw [show SUB "Has" "OneOf" = false by decide +kernel]; exact kit_own ic0 ty0 q5_0 q3_0), (List.forall_mem_cons.mpr ⟨(by rw [show SUB "Has" "Compare" = false by decide +kernel]; exact kit_own ic1 ty1 q4_1 q3_1), (List.forall_mem_cons.mpr ⟨(by rw [show SUB "Has" "Has" = true by decide +kernel]; exact kit_own ic2 ty2 q3_2 q3_2), (fun _ h => nomatch h)⟩)⟩)⟩), (List.forall_mem_cons.mpr ⟨(by rw [show SUB "Has" "OneOf" = false by decide +kernel]; exact q3_0), (List.forall_mem_cons.mpr ⟨(by rw [show SUB "Has" "Compare" = false by decide +kernel]; exact q3_1), (List.forall_mem_cons.mpr ⟨(by rw [show SUB "Has" "Has" = true by decide +kernel]; exact q3_2), (fun _ h => nomatch h)⟩)⟩)⟩), (by show _ ∈ (["FieldFact", "Range", "Values", "Has", "Compare", "OneOf"] : List Str); simp), fun y hy e => lk_inj (l := [("FieldFact", C0), ("Range", C1), ("Values", C2), ("Has", C3), ("Compare", C4), ("OneOf", C5)]) (show (["FieldFact", "Range", "Values", "Has", "Compare", "OneOf"] : List Str).Nodup by decide) nd (by show _ ∈ (["FieldFact", "Range", "Values", "Has", "Compare", "OneOf"] : List Str); simp) hy e⟩
  have C_Has : ClsF K mg (cEnv C0 C1 C2 C3 C4 C5) "Has" ["field"] := ⟨O_Has, fun _ => I_Has, PySem.W.mg_of X G b3⟩
  have O_Compare : ClsOk K (cEnv C0 C1 C2 C3 C4 C5) "Compare" ["field", "sign", "value"] := ⟨⟨pg4, hd4, po4, sa4⟩, na_of (List.forall_mem_cons.mpr ⟨n4_0, (List.forall_mem_cons.mpr ⟨n4_1, (List.forall_mem_cons.mpr ⟨n4_2, (fun _ h => nomatch h)⟩)⟩)⟩), ha4, hn, htk, hm4, (List.forall_mem_cons.mpr ⟨(by rw [show SUB "Compare" "OneOf" = false by decide +kernel]; exact kit_own ic0 ty0 q5_0 q4_0), (List.forall_mem_cons.mpr ⟨(by rw [show SUB "Compare" "Compare" = true by decide +kernel]; exact kit_own ic1 ty1 q4_1 q4_1), (List.forall_mem_cons.mpr ⟨(by rw [show SUB "Compare" "Has" = false by decide +kernel]; exact kit_own ic2 ty2 q3_2 q4_2), (fun _ h => nomatch h)⟩)⟩)⟩), (List.forall_mem_cons.mpr ⟨(by rw [show SUB "Compare" "OneOf" = false by decide +kernel]; exact q4_0), (List.forall_mem_cons.mpr ⟨(by rw [show SUB "Compare" "Compare" = true by decide +kernel]; exact q4_1), (List.forall_mem_cons.mpr ⟨(by rw [show SUB "Compare" "Has" = false by decide +kernel]; exact q4_2), (fun _ h => nomatch h)⟩)⟩)⟩), (by show _ ∈ (["FieldFact", "Range", "Values", "Has", "Compare", "OneOf"] : List Str); simp), fun y hy e => lk_inj (l := [("FieldFact", C0), ("Range", C1), ("Values", C2), ("Has", C3), ("Compare", C4), ("OneOf", C5)]) (show (["FieldFact", "Range", "Values", "Has", "Compare", "OneOf"] : List Str).Nodup by decide) nd (by show _ ∈ (["FieldFact", "Range", "Values", "Has", "Compare", "OneOf"] : List Str); simp) hy e⟩
  have C_Compare : ClsF K mg (cEnv C0 C1 C2 C3 C4 C5) "Compare" ["field", "sign", "value"] := ⟨O_Compare, fun _ => I_Compare, PySem.W.mg_of X G b4⟩
  have O_OneOf : ClsOk K (cEnv C0 C1 C2 C3 C4 C5) "OneOf" ["field", "choices"] := ⟨⟨pg5, hd5, po5, sa5⟩, na_of (List.forall_mem_cons.mpr ⟨n5_0, (List.forall_mem_cons.mpr ⟨n5_1, (fun _ h => nomatch h)⟩)⟩), ha5, hn, htk, hm5, (List.forall_mem_cons.mpr ⟨(by rw [show SUB "OneOf" "OneOf" = true by decide +kernel]; exact kit_own ic0 ty0 q5_0 q5_0), (List.forall_mem_cons.mpr ⟨(by rw [show SUB "OneOf" "Compare" = false by decide +kernel]; exact kit_own ic1 ty1 q4_1 q5_1), (List.forall_mem_cons.mpr ⟨(by rw [show SUB "OneOf" "Has" = false by decide +kernel]; exact kit_own ic2 ty2 q3_2 q5_2), (fun _ h => nomatch h)⟩)⟩)⟩), (List.forall_mem_cons.mpr ⟨(by rw [show SUB "OneOf" "OneOf" = true by decide +kernel]; exact q5_0), (List.forall_mem_cons.mpr ⟨(by rw [show SUB "OneOf" "Compare" = false by decide +kernel]; exact q5_1), (List.forall_mem_cons.mpr ⟨(by rw [show SUB "OneOf" "Has" = false by decide +kernel]; exact q5_2), (fun _ h => nomatch h)⟩)⟩)⟩), (by show _ ∈ (["FieldFact", "Range", "Values", "Has", "Compare", "OneOf"] : List Str); simp), fun y hy e => lk_inj (l := [("FieldFact", C0), ("Range", C1), ("Values", C2), ("Has", C3), ("Compare", C4), ("OneOf", C5)]) (show (["FieldFact", "Range", "Values", "Has", "Compare", "OneOf"] : List Str).Nodup by decide) nd (by show _ ∈ (["FieldFact", "Range", "Values", "Has", "Compare", "OneOf"] : List Str); simp) hy e⟩
  have C_OneOf : ClsF K mg (cEnv C0 C1 C2 C3 C4 C5) "OneOf" ["field", "choices"] := ⟨O_OneOf, fun _ => I_OneOf, PySem.W.mg_of X G b5⟩
  refine ⟨PySem.W.fnOf "law" "law" (defArgs s_law) (defBody s_law) (defScope s_law) .none kV28 dc28 pm28 an28 cd28 ct28, fun s v => .of_eq rfl, fun base _ _ => ?_⟩
  have D_law_row : Dfn l.prog w K mg base 1 "_law_row" ["_law_script", "_law_k"] (sp_law_row K) := ⟨_, _, PySem.W.mg_of X G a0, F0.kp, F0.binds (ps := ["_law_script", "_law_k"]) (fun _ _ _ _ _ _ us hl => match us, hl with | [_, _], _ => rfl), ok_law_row m_len m_int F0⟩
  have D_law_next : Dfn l.prog w K mg base 2 "_law_next" ["_law_state", "_law_many"] (sp_law_next K) := ⟨_, _, PySem.W.mg_of X G a1, F1.kp, F1.binds (ps := ["_law_state", "_law_many"]) (fun _ _ _ _ _ _ us hl => match us, hl with | [_, _], _ => rfl), ok_law_next D_law_row m_int F1⟩
  have D_law_field_fact : Dfn l.prog w K mg base 3 "_law_field_fact" ["_law_state"] (sp_law_field_fact K (cEnv C0 C1 C2 C3 C4 C5)) := ⟨_, _, PySem.W.mg_of X G a2, F2.kp, F2.binds (ps := ["_law_state"]) (fun _ _ _ _ _ _ us hl => match us, hl with | [_], _ => rfl), ok_law_field_fact D_law_next F2⟩
  have D_law_leaf : Dfn l.prog w K mg base 3 "_law_leaf" ["_law_state"] (sp_law_leaf K (cEnv C0 C1 C2 C3 C4 C5)) := ⟨_, _, PySem.W.mg_of X G a3, F3.kp, F3.binds (ps := ["_law_state"]) (fun _ _ _ _ _ _ us hl => match us, hl with | [_], _ => rfl), ok_law_leaf D_law_next m_range m_len F3⟩
  have S_FieldFact_init : Sup l.prog w K mg base 1 ((cEnv C0 C1 C2 C3 C4 C5).cls "FieldFact") "__init__" ["self", "field", "lack"] (sp_FieldFact_init K (cEnv C0 C1 C2 C3 C4 C5)) := ⟨sr0, sg0, _, _, sf4, k4, F4.binds (ps := ["self", "field", "lack"]) (fun _ _ _ _ _ _ us hl => match us, hl with | [_, _, _], _ => rfl), ok_FieldFact_init F4⟩
  have FD5 : FunD K "__init__" "Range.__init__" (defArgs s_Range_init) (defBody s_Range_init) (defScope s_Range_init) [] [("lack", (.str "nobody"))] f5 _ := ⟨⟨_, _, _, _, _, _, _, _, _, _, rfl, l5, c5, .inl ⟨rfl, rfl⟩, .inr ⟨kD5, rfl, (List.forall_mem_cons.mpr ⟨⟨_, kd5_lack, ⟨_, rfl⟩⟩, (fun _ h => nomatch h)⟩)⟩⟩, k5⟩
  have B_K_Range_init_3_lack := FunD.kbinds0 (ps := ["self", "field", "low", "high", "lack"]) FD5 4 ["lack"] [] (gSel [(true, 0)]) (by simp) (by simp) (fun r1 r2 r3 => gSel_rel [(true, 0)] r1 r2 r3) (fun D doc pm an cdv ct us mv ws h1 h2 h3 => match us, h1, mv, h2, ws, h3 with | [_, _, _, _], _, [], _, [_], _ => rfl)
  have K_Range_init_3_lack : MkrK CX0 l.prog w K mg base 2 ((cEnv C0 C1 C2 C3 C4 C5).cls "Range") ["self", "field", "low", "high", "lack"] (sp_Range_init K (cEnv C0 C1 C2 C3 C4 C5)) 3 ["lack"] [] [(true, 0)] := B_K_Range_init_3_lack.elim fun mv hb => ⟨_, _, _, _, ⟨mk1, a5, i5, kc1⟩, .nil, hb, ok_Range_init C_FieldFact S_FieldFact_init F5⟩
  have FD6 : FunD K "__init__" "Values.__init__" (defArgs s_Values_init) (defBody s_Values_init) (defScope s_Values_init) [] [("lack", (.str "nobody"))] f6 _ := ⟨⟨_, _, _, _, _, _, _, _, _, _, rfl, l6, c6, .inl ⟨rfl, rfl⟩, .inr ⟨kD6, rfl, (List.forall_mem_cons.mpr ⟨⟨_, kd6_lack, ⟨_, rfl⟩⟩, (fun _ h => nomatch h)⟩)⟩⟩, k6⟩
  have B_K_Values_init_2_lack := FunD.kbinds0 (ps := ["self", "field", "choices", "lack"]) FD6 3 ["lack"] [] (gSel [(true, 0)]) (by simp) (by simp) (fun r1 r2 r3 => gSel_rel [(true, 0)] r1 r2 r3) (fun D doc pm an cdv ct us mv ws h1 h2 h3 => match us, h1, mv, h2, ws, h3 with | [_, _, _], _, [], _, [_], _ => rfl)
  have K_Values_init_2_lack : MkrK CX0 l.prog w K mg base 2 ((cEnv C0 C1 C2 C3 C4 C5).cls "Values") ["self", "field", "choices", "lack"] (sp_Values_init K (cEnv C0 C1 C2 C3 C4 C5)) 2 ["lack"] [] [(true, 0)] := B_K_Values_init_2_lack.elim fun mv hb => ⟨_, _, _, _, ⟨mk2, a6, i6, kc2⟩, .nil, hb, ok_Values_init C_FieldFact S_FieldFact_init m_tuple F6⟩
  have D_law_made : Dfn l.prog w K mg base 4 "_law_made" ["_law_fact"] (sp_law_made K (cEnv C0 C1 C2 C3 C4 C5)) := ⟨_, _, PySem.W.mg_of X G a7, F7.kp, F7.binds (ps := ["_law_fact"]) (fun _ _ _ _ _ _ us hl => match us, hl with | [_], _ => rfl), ok_law_made C_Range C_Values K_Range_init_3_lack K_Values_init_2_lack m_list F7⟩
  have K_Has_init : Mkr l.prog w K mg base 1 ((cEnv C0 C1 C2 C3 C4 C5).cls "Has") ["self", "field"] (sp_Has_init K (cEnv C0 C1 C2 C3 C4 C5)) := ⟨_, _, ⟨mk3, a8, i8, kc3⟩, F8.binds (ps := ["self", "field"]) (fun _ _ _ _ _ _ us hl => match us, hl with | [_, _], _ => rfl), ok_Has_init F8⟩
  have K_Compare_init : Mkr l.prog w K mg base 1 ((cEnv C0 C1 C2 C3 C4 C5).cls "Compare") ["self", "field", "sign", "value"] (sp_Compare_init K (cEnv C0 C1 C2 C3 C4 C5)) := ⟨_, _, ⟨mk4, a9, i9, kc4⟩, F9.binds (ps := ["self", "field", "sign", "value"]) (fun _ _ _ _ _ _ us hl => match us, hl with | [_, _, _, _], _ => rfl), ok_Compare_init F9⟩
  have K_OneOf_init : Mkr l.prog w K mg base 1 ((cEnv C0 C1 C2 C3 C4 C5).cls "OneOf") ["self", "field", "choices"] (sp_OneOf_init K (cEnv C0 C1 C2 C3 C4 C5)) := ⟨_, _, ⟨mk5, a10, i10, kc5⟩, F10.binds (ps := ["self", "field", "choices"]) (fun _ _ _ _ _ _ us hl => match us, hl with | [_, _, _], _ => rfl), ok_OneOf_init m_tuple F10⟩
  have D_law_built : Dfn l.prog w K mg base 3 "_law_built" ["_law_tree"] (sp_law_built K (cEnv C0 C1 C2 C3 C4 C5)) := ⟨_, _, PySem.W.mg_of X G a11, F11.kp, F11.binds (ps := ["_law_tree"]) (fun _ _ _ _ _ _ us hl => match us, hl with | [_], _ => rfl), ok_law_built C_Has C_Compare C_OneOf K_Has_init K_Compare_init K_OneOf_init m_list F11⟩
  have D_is_about : Dfn l.prog w K mg base 1 "is_about" ["condition", "field"] (sp_is_about K (cEnv C0 C1 C2 C3 C4 C5)) := ⟨_, _, PySem.W.mg_of X G a12, F12.kp, F12.binds (ps := ["condition", "field"]) (fun _ _ _ _ _ _ us hl => match us, hl with | [_, _], _ => rfl), ok_is_about C_OneOf I_OneOf C_Compare I_Compare C_Has I_Has m_isinstance F12⟩
  have D_is_integer : Dfn l.prog w K mg base 1 "is_integer" ["worth"] (sp_is_integer K (cEnv C0 C1 C2 C3 C4 C5)) := ⟨_, _, PySem.W.mg_of X G a13, F13.kp, F13.binds (ps := ["worth"]) (fun _ _ _ _ _ _ us hl => match us, hl with | [_], _ => rfl), ok_is_integer m_int m_isinstance m_bool F13⟩
  have D_range_passes : Dfn l.prog w K mg base 1 "range_passes" ["sign", "low", "high", "worth"] (sp_range_passes K (cEnv C0 C1 C2 C3 C4 C5)) := ⟨_, _, PySem.W.mg_of X G a14, F14.kp, F14.binds (ps := ["sign", "low", "high", "worth"]) (fun _ _ _ _ _ _ us hl => match us, hl with | [_, _, _, _], _ => rfl), ok_range_passes F14⟩
  have M_Range_outcomes_of_present : Mth l.prog w K mg base 2 ((cEnv C0 C1 C2 C3 C4 C5).cls "Range") "outcomes_of_present" ["self", "condition"] (sp_Range_outcomes_of_present K (cEnv C0 C1 C2 C3 C4 C5)) := ⟨_, _, ⟨a15, i15, k15⟩, F15.binds (ps := ["self", "condition"]) (fun _ _ _ _ _ _ us hl => match us, hl with | [_, _], _ => rfl), ok_Range_outcomes_of_present C_OneOf I_OneOf D_is_integer D_range_passes m_isinstance m_len g_OPPOSITES F15⟩
  have D_same_value : Dfn l.prog w K mg base 1 "same_value" ["a", "b"] (sp_same_value K (cEnv C0 C1 C2 C3 C4 C5)) := ⟨_, _, PySem.W.mg_of X G a16, F16.kp, F16.binds (ps := ["a", "b"]) (fun _ _ _ _ _ _ us hl => match us, hl with | [_, _], _ => rfl), ok_same_value m_bool m_isinstance m_str F16⟩
  have D_is_one_of : Dfn l.prog w K mg base 2 "is_one_of" ["worth", "choices"] (sp_is_one_of K (cEnv C0 C1 C2 C3 C4 C5)) := ⟨_, _, PySem.W.mg_of X G a17, F17.kp, F17.binds (ps := ["worth", "choices"]) (fun _ _ _ _ _ _ us hl => match us, hl with | [_, _], _ => rfl), ok_is_one_of D_same_value F17⟩
  have D_same_kind : Dfn l.prog w K mg base 1 "same_kind" ["a", "b"] (sp_same_kind K (cEnv C0 C1 C2 C3 C4 C5)) := ⟨_, _, PySem.W.mg_of X G a18, F18.kp, F18.binds (ps := ["a", "b"]) (fun _ _ _ _ _ _ us hl => match us, hl with | [_, _], _ => rfl), ok_same_kind m_bool m_isinstance m_str F18⟩
  have D_compare : Dfn l.prog w K mg base 1 "compare" ["sign", "a", "b"] (sp_compare K (cEnv C0 C1 C2 C3 C4 C5)) := ⟨_, _, PySem.W.mg_of X G a19, F19.kp, F19.binds (ps := ["sign", "a", "b"]) (fun _ _ _ _ _ _ us hl => match us, hl with | [_, _, _], _ => rfl), ok_compare F19⟩
  have D_satisfies : Dfn l.prog w K mg base 3 "satisfies" ["condition", "worth"] (sp_satisfies K (cEnv C0 C1 C2 C3 C4 C5)) := ⟨_, _, PySem.W.mg_of X G a20, F20.kp, F20.binds (ps := ["condition", "worth"]) (fun _ _ _ _ _ _ us hl => match us, hl with | [_, _], _ => rfl), ok_satisfies C_OneOf I_OneOf D_is_one_of D_same_kind D_compare m_isinstance F20⟩
  have M_Values_outcomes_of_present : Mth l.prog w K mg base 4 ((cEnv C0 C1 C2 C3 C4 C5).cls "Values") "outcomes_of_present" ["self", "condition"] (sp_Values_outcomes_of_present K (cEnv C0 C1 C2 C3 C4 C5)) := ⟨_, _, ⟨a21, i21, k21⟩, F21.binds (ps := ["self", "condition"]) (fun _ _ _ _ _ _ us hl => match us, hl with | [_, _], _ => rfl), ok_Values_outcomes_of_present D_satisfies m_len F21⟩
  have M_FieldFact_field_outcomes_at_Range : Mth l.prog w K mg base 5 ((cEnv C0 C1 C2 C3 C4 C5).cls "Range") "field_outcomes" ["self", "condition"] (sp_FieldFact_field_outcomes K (cEnv C0 C1 C2 C3 C4 C5)) := ⟨_, _, ⟨ai22_Range, i22, k22⟩, F22.binds (ps := ["self", "condition"]) (fun _ _ _ _ _ _ us hl => match us, hl with | [_, _], _ => rfl), ok_FieldFact_field_outcomes C_Has I_Has C_Range C_Values D_is_about M_Range_outcomes_of_present M_Values_outcomes_of_present m_isinstance F22⟩
  have M_FieldFact_field_outcomes_at_Values : Mth l.prog w K mg base 5 ((cEnv C0 C1 C2 C3 C4 C5).cls "Values") "field_outcomes" ["self", "condition"] (sp_FieldFact_field_outcomes K (cEnv C0 C1 C2 C3 C4 C5)) := ⟨_, _, ⟨ai22_Values, i22, k22⟩, F22.binds (ps := ["self", "condition"]) (fun _ _ _ _ _ _ us hl => match us, hl with | [_, _], _ => rfl), ok_FieldFact_field_outcomes C_Has I_Has C_Range C_Values D_is_about M_Range_outcomes_of_present M_Values_outcomes_of_present m_isinstance F22⟩
  have M_Range_outcomes : Mth l.prog w K mg base 6 ((cEnv C0 C1 C2 C3 C4 C5).cls "Range") "outcomes" ["self", "condition"] (sp_Range_outcomes K (cEnv C0 C1 C2 C3 C4 C5)) := ⟨_, _, ⟨a23, i23, k23⟩, F23.binds (ps := ["self", "condition"]) (fun _ _ _ _ _ _ us hl => match us, hl with | [_, _], _ => rfl), ok_Range_outcomes C_Range C_Values M_FieldFact_field_outcomes_at_Range M_FieldFact_field_outcomes_at_Values F23⟩
  have M_Values_outcomes : Mth l.prog w K mg base 6 ((cEnv C0 C1 C2 C3 C4 C5).cls "Values") "outcomes" ["self", "condition"] (sp_Values_outcomes K (cEnv C0 C1 C2 C3 C4 C5)) := ⟨_, _, ⟨a24, i24, k24⟩, F24.binds (ps := ["self", "condition"]) (fun _ _ _ _ _ _ us hl => match us, hl with | [_, _], _ => rfl), ok_Values_outcomes C_Range C_Values M_FieldFact_field_outcomes_at_Range M_FieldFact_field_outcomes_at_Values F24⟩
  have D_law_compares : Dfn l.prog w K mg base 1 "_law_compares" ["_law_sign", "_law_a", "_law_b"] (sp_law_compares K (cEnv C0 C1 C2 C3 C4 C5)) := ⟨_, _, PySem.W.mg_of X G a25, F25.kp, F25.binds (ps := ["_law_sign", "_law_a", "_law_b"]) (fun _ _ _ _ _ _ us hl => match us, hl with | [_, _, _], _ => rfl), ok_law_compares F25⟩
  have D_law_worth_passes : Dfn l.prog w K mg base 2 "_law_worth_passes" ["_law_tree", "_law_worth"] (sp_law_worth_passes K (cEnv C0 C1 C2 C3 C4 C5)) := ⟨_, _, PySem.W.mg_of X G a26, F26.kp, F26.binds (ps := ["_law_tree", "_law_worth"]) (fun _ _ _ _ _ _ us hl => match us, hl with | [_, _], _ => rfl), ok_law_worth_passes D_law_compares F26⟩
  have D_law_outcomes : Dfn l.prog w K mg base 3 "_law_outcomes" ["_law_fact", "_law_tree"] (sp_law_outcomes K (cEnv C0 C1 C2 C3 C4 C5)) := ⟨_, _, PySem.W.mg_of X G a27, F27.kp, F27.binds (ps := ["_law_fact", "_law_tree"]) (fun _ _ _ _ _ _ us hl => match us, hl with | [_, _], _ => rfl), ok_law_outcomes D_law_worth_passes m_len m_range m_list F27⟩
  exact ok_law C_Range C_Values D_law_field_fact D_law_leaf D_law_next D_law_made D_law_built M_Range_outcomes M_Values_outcomes D_law_outcomes m_list m_range m_tuple m_isinstance m_bool F28
theorem walk {l : PySem.W.OpenLaw} {q : Program} {loose : List Str} {XP : (Str → Option Value) → Heap → Prop} {YP : World → Heap → Prop} {d : DefRec} {K : Params → PySem.W.Frag} (hn : l.most = some 63) (hdf : d.params.defaults = [])
    (hY : ∀ (w : World) (h : Heap), YP w h → (K w.params).In h)
    (F : ∀ (w : World) (mg : Str → Option Value) (fa : Addr) (h : Heap), (K w.params).In h → h.Ns mainGlobals mg → mg d.name = some (.ref fa) →
      ∃ fd : FuncData, (∀ (s : Shared) (u : Value), BindsTo s fd ⟨[u], []⟩ [("_law_script", u)]) ∧ ∀ base : Heap, (K w.params).In base → base.Ns mainGlobals mg → FnOk l.prog w (K w.params) mg base CX0 7 fa fd ["_law_script"] (sp_law (K w.params))) :
    PySem.W.WalkO q loose XP YP l.row.toRowW d [] (fun f vs => PySem.call f vs) :=
  L2.walk_of (n := 63) (k := 7) (x := "_law_script") (CX := fun _ => CX0) (sp := fun w => sp_law (K w.params)) hn (by decide) hdf ⟨rfl, by decide, by decide⟩ hY F (fun _ _ a ns hl _ hS => ⟨a, ns, rfl, hS, hl, fun _ => rfl⟩) fun _ _ _ _ _ z => z
end Z
open PySem PySem.W PyProof.Rows
set_option maxRecDepth 100000 in
set_option maxHeartbeats 0 in
theorem PySem.Challenge.cw_surenear_k22_outcomes_of_one_fact_holds : PySem.Challenge.rw_surenear_k22_outcomes_of_one_fact.Holds := by
  w_on; o_law
  refine ZH.head_run ZH.left (d := ZH.lawD) (kwd := []) (by kernel_rfl) (by kernel_rfl) (by kernel_rfl) (by rfl) (by first | assumption | decide +kernel) (by decide +kernel) ⟨rfl, rfl, rfl, rfl, rfl, by decide +kernel⟩ ?hw ?hc
  (case hw => w_witness2)
  k_fill
  refine Z.walk (l := PySem.Challenge.rw_surenear_k22_outcomes_of_one_fact) rfl rfl (fun w h Y => PySem.W.kIn_of Y) ?F
  case F =>
    intro w mg fa h KX G hmg0
    have hmg : mg ("law" : PySem.Str) = some (.ref fa) := by rw [← ZH.lawD_name]; exact hmg0
    refine' Z.all_mk KX G hmg ?b0 ?b1 ?b2 ?b3 ?b4 ?b5 ?pg0 ?hd0 ?po0 ?sa0 ?ha0 ?hm0 ?sr0 ?sg0 ?n0_0 ?n0_1 ?q0_0 ?q0_1 ?q0_2 ?pg1 ?hd1 ?po1 ?sa1 ?ha1 ?hm1 ?mk1 ?kc1 ?n1_0 ?n1_1 ?n1_2 ?n1_3 ?q1_0 ?q1_1 ?q1_2 ?pg2 ?hd2 ?po2 ?sa2 ?ha2 ?hm2 ?mk2 ?kc2 ?n2_0 ?n2_1 ?n2_2 ?q2_0 ?q2_1 ?q2_2 ?pg3 ?hd3 ?po3 ?sa3 ?ha3 ?hm3 ?mk3 ?kc3 ?n3_0 ?q3_0 ?q3_1 ?q3_2 ?pg4 ?hd4 ?po4 ?sa4 ?ha4 ?hm4 ?mk4 ?kc4 ?n4_0 ?n4_1 ?n4_2 ?q4_0 ?q4_1 ?q4_2 ?pg5 ?hd5 ?po5 ?sa5 ?ha5 ?hm5 ?mk5 ?kc5 ?n5_0 ?n5_1 ?q5_0 ?q5_1 ?q5_2 ?ic0 ?ty0 ?r0_int ?r0_bool ?r0_str ?r0_NoneType ?r0_tuple ?r0_list ?r0_dict ?ic1 ?ty1 ?r1_int ?r1_bool ?r1_str ?r1_NoneType ?r1_tuple ?r1_list ?r1_dict ?ic2 ?ty2 ?r2_int ?r2_bool ?r2_str ?r2_NoneType ?r2_tuple ?r2_list ?r2_dict ?hn ?htk ?nd ?a0 ?l0 ?c0 ?k0 ?a1 ?l1 ?c1 ?k1 ?a2 ?l2 ?c2 ?k2 ?a3 ?l3 ?c3 ?k3 ?a4 ?i4 ?sf4 ?l4 ?c4 ?k4 ?a5 ?i5 ?l5 ?c5 ?k5 ?a6 ?i6 ?l6 ?c6 ?k6 ?a7 ?l7 ?c7 ?k7 ?a8 ?i8 ?l8 ?c8 ?k8 ?a9 ?i9 ?l9 ?c9 ?k9 ?a10 ?i10 ?l10 ?c10 ?k10 ?a11 ?l11 ?c11 ?k11 ?a12 ?l12 ?c12 ?k12 ?a13 ?l13 ?c13 ?k13 ?a14 ?l14 ?c14 ?k14 ?a15 ?i15 ?l15 ?c15 ?k15 ?a16 ?l16 ?c16 ?k16 ?a17 ?l17 ?c17 ?k17 ?a18 ?l18 ?c18 ?k18 ?a19 ?l19 ?c19 ?k19 ?a20 ?l20 ?c20 ?k20 ?a21 ?i21 ?l21 ?c21 ?k21 ?a22 ?i22 ?ai22_Range ?ai22_Values ?l22 ?c22 ?k22 ?a23 ?i23 ?l23 ?c23 ?k23 ?a24 ?i24 ?l24 ?c24 ?k24 ?a25 ?l25 ?c25 ?k25 ?a26 ?l26 ?c26 ?k26 ?a27 ?l27 ?c27 ?k27 ?a28 ?l28 ?c28 ?k28 ?kd5_lack ?kd6_lack ?z0 ?z1 ?z2 ?z3 ?z4 ?z5 ?z6 ?z7 ?kg0 ?kl0 ?kk0 ?ko0
    (case b0 => k_is)
    (case b1 => k_is)
    (case b2 => k_is)
    (case b3 => k_is)
    (case b4 => k_is)
    (case b5 => k_is)
    (case pg0 => k_is)
    (case hd0 => k_is)
    (case po0 => k_is)
    (case sa0 => k_is)
    (case ha0 => k_is)
    (case hm0 => k_is)
    (case sr0 => k_is)
    (case sg0 => k_is)
    (case n0_0 => k_is)
    (case n0_1 => k_is)
    (case q0_0 => k_is)
    (case q0_1 => k_is)
    (case q0_2 => k_is)
    (case pg1 => k_is)
    (case hd1 => k_is)
    (case po1 => k_is)
    (case sa1 => k_is)
    (case ha1 => k_is)
    (case hm1 => k_is)
    (case mk1 => k_is)
    (case kc1 => k_is)
    (case n1_0 => k_is)
    (case n1_1 => k_is)
    (case n1_2 => k_is)
    (case n1_3 => k_is)
    (case q1_0 => k_is)
    (case q1_1 => k_is)
    (case q1_2 => k_is)
    (case pg2 => k_is)
    (case hd2 => k_is)
    (case po2 => k_is)
    (case sa2 => k_is)
    (case ha2 => k_is)
    (case hm2 => k_is)
    (case mk2 => k_is)
    (case kc2 => k_is)
    (case n2_0 => k_is)
    (case n2_1 => k_is)
    (case n2_2 => k_is)
    (case q2_0 => k_is)
    (case q2_1 => k_is)
    (case q2_2 => k_is)
    (case pg3 => k_is)
    (case hd3 => k_is)
    (case po3 => k_is)
    (case sa3 => k_is)
    (case ha3 => k_is)
    (case hm3 => k_is)
    (case mk3 => k_is)
    (case kc3 => k_is)
    (case n3_0 => k_is)
    (case q3_0 => k_is)
    (case q3_1 => k_is)
    (case q3_2 => k_is)
    (case pg4 => k_is)
    (case hd4 => k_is)
    (case po4 => k_is)
    (case sa4 => k_is)
    (case ha4 => k_is)
    (case hm4 => k_is)
    (case mk4 => k_is)
    (case kc4 => k_is)
    (case n4_0 => k_is)
    (case n4_1 => k_is)
    (case n4_2 => k_is)
    (case q4_0 => k_is)
    (case q4_1 => k_is)
    (case q4_2 => k_is)
    (case pg5 => k_is)
    (case hd5 => k_is)
    (case po5 => k_is)
    (case sa5 => k_is)
    (case ha5 => k_is)
    (case hm5 => k_is)
    (case mk5 => k_is)
    (case kc5 => k_is)
    (case n5_0 => k_is)
    (case n5_1 => k_is)
    (case q5_0 => k_is)
    (case q5_1 => k_is)
    (case q5_2 => k_is)
    (case ic0 => k_is)
    (case ty0 => k_is)
    (case r0_int => k_is)
    (case r0_bool => k_is)
    (case r0_str => k_is)
    (case r0_NoneType => k_is)
    (case r0_tuple => k_is)
    (case r0_list => k_is)
    (case r0_dict => k_is)
    (case ic1 => k_is)
    (case ty1 => k_is)
    (case r1_int => k_is)
    (case r1_bool => k_is)
    (case r1_str => k_is)
    (case r1_NoneType => k_is)
    (case r1_tuple => k_is)
    (case r1_list => k_is)
    (case r1_dict => k_is)
    (case ic2 => k_is)
    (case ty2 => k_is)
    (case r2_int => k_is)
    (case r2_bool => k_is)
    (case r2_str => k_is)
    (case r2_NoneType => k_is)
    (case r2_tuple => k_is)
    (case r2_list => k_is)
    (case r2_dict => k_is)
    (case hn => k_is)
    (case htk => k_is)
    (case nd => decide)
    (case a0 => k_is)
    (case l0 => k_is)
    (case c0 => k_is)
    (case k0 => k_is)
    (case a1 => k_is)
    (case l1 => k_is)
    (case c1 => k_is)
    (case k1 => k_is)
    (case a2 => k_is)
    (case l2 => k_is)
    (case c2 => k_is)
    (case k2 => k_is)
    (case a3 => k_is)
    (case l3 => k_is)
    (case c3 => k_is)
    (case k3 => k_is)
    (case a4 => k_is)
    (case i4 => k_is)
    (case sf4 => k_is)
    (case l4 => k_is)
    (case c4 => k_is)
    (case k4 => k_is)
    (case a5 => k_is)
    (case i5 => k_is)
    (case l5 => k_is)
    (case c5 => k_is)
    (case k5 => k_is)
    (case a6 => k_is)
    (case i6 => k_is)
    (case l6 => k_is)
    (case c6 => k_is)
    (case k6 => k_is)
    (case a7 => k_is)
    (case l7 => k_is)
    (case c7 => k_is)
    (case k7 => k_is)
    (case a8 => k_is)
    (case i8 => k_is)
    (case l8 => k_is)
    (case c8 => k_is)
    (case k8 => k_is)
    (case a9 => k_is)
    (case i9 => k_is)
    (case l9 => k_is)
    (case c9 => k_is)
    (case k9 => k_is)
    (case a10 => k_is)
    (case i10 => k_is)
    (case l10 => k_is)
    (case c10 => k_is)
    (case k10 => k_is)
    (case a11 => k_is)
    (case l11 => k_is)
    (case c11 => k_is)
    (case k11 => k_is)
    (case a12 => k_is)
    (case l12 => k_is)
    (case c12 => k_is)
    (case k12 => k_is)
    (case a13 => k_is)
    (case l13 => k_is)
    (case c13 => k_is)
    (case k13 => k_is)
    (case a14 => k_is)
    (case l14 => k_is)
    (case c14 => k_is)
    (case k14 => k_is)
    (case a15 => k_is)
    (case i15 => k_is)
    (case l15 => k_is)
    (case c15 => k_is)
    (case k15 => k_is)
    (case a16 => k_is)
    (case l16 => k_is)
    (case c16 => k_is)
    (case k16 => k_is)
    (case a17 => k_is)
    (case l17 => k_is)
    (case c17 => k_is)
    (case k17 => k_is)
    (case a18 => k_is)
    (case l18 => k_is)
    (case c18 => k_is)
    (case k18 => k_is)
    (case a19 => k_is)
    (case l19 => k_is)
    (case c19 => k_is)
    (case k19 => k_is)
    (case a20 => k_is)
    (case l20 => k_is)
    (case c20 => k_is)
    (case k20 => k_is)
    (case a21 => k_is)
    (case i21 => k_is)
    (case l21 => k_is)
    (case c21 => k_is)
    (case k21 => k_is)
    (case a22 => k_is)
    (case i22 => k_is)
    (case ai22_Range => k_is)
    (case ai22_Values => k_is)
    (case l22 => k_is)
    (case c22 => k_is)
    (case k22 => k_is)
    (case a23 => k_is)
    (case i23 => k_is)
    (case l23 => k_is)
    (case c23 => k_is)
    (case k23 => k_is)
    (case a24 => k_is)
    (case i24 => k_is)
    (case l24 => k_is)
    (case c24 => k_is)
    (case k24 => k_is)
    (case a25 => k_is)
    (case l25 => k_is)
    (case c25 => k_is)
    (case k25 => k_is)
    (case a26 => k_is)
    (case l26 => k_is)
    (case c26 => k_is)
    (case k26 => k_is)
    (case a27 => k_is)
    (case l27 => k_is)
    (case c27 => k_is)
    (case k27 => k_is)
    (case a28 => k_is)
    (case l28 => k_is)
    (case c28 => k_is)
    (case k28 => k_is)
    (case kd5_lack => k_is)
    (case kd6_lack => k_is)
    (case z0 => k_is)
    (case z1 => k_is)
    (case z2 => k_is)
    (case z3 => k_is)
    (case z4 => k_is)
    (case z5 => k_is)
    (case z6 => k_is)
    (case z7 => k_is)
    (case kg0 => k_is)
    (case kl0 => k_is)
    (case kk0 => k_keys)
    (case ko0 => decide)

